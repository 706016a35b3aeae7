/- Package balance: sum, begun, truth, cost. -/
import Derived.Test.YtonddbmhljelgaaBalG
set_option linter.unusedVariables false
set_option linter.unusedSimpArgs false
namespace Go.Bal
open Go Go.Sym Go.Proofs
def eIntsL (l : List Int) : DVal := lst 1 l.length fun i => eInt (gD l i)
def eSpansL (l : List Span) : DVal := lst 2 l.length fun i => eSpan (gD l i)
def eReachesL (l : List Reach) : DVal := lst 4 l.length fun i => eReach (gD l i)
def eNetL (N : NetL) : DVal := .agg [eSpansL N.g, eReachesL N.r]
def eTruthL (T : TruthL) : DVal := .agg [eIntsL T.f, eIntsL T.t]
structure AK where
  acc : Int
  k : Nat
  deriving Inhabited
def A99 (l : List Int) : Ann := { ann 17 [] with loops := fun id => if id = 3 then some [{ α := AK, dflt := default, T := fun s => ⟨[(3, .int s.acc), (6, .d (eIntsL l)), (7, .int l.length), (8, .int s.k)], []⟩, inv := fun s => s.k ≤ l.length ∧ sumFrom s.acc (l.drop s.k) = sumFrom 0 l, meas := fun s => l.length - s.k }] else none }
def C99 : Ctr := { α := List Int, xs := fun l => [.d (eIntsL l)], L := fun _ => [], val := fun l => .int (sumFrom 0 l), keep := fun _ => [], pre := fun l => [l.length < 4611686018427387904] }
def d99 : List AVal → Heap → Option (List Int × List (Nat × Nat) × List Nat)
  | [.own id _ _ n], H => match H id with
    | .live (.row _ _ get) => some (rng n fun i => dInt (get i), [], [id])
    | _ => none
  | [.d (.list _ n g _)], _ => some (rng n fun i => dInt (g i), [], [])
  | _, _ => none
def V99 (l : List Int) : Prop := fnVC Try.prog (A99 l) Try.f99 (bodyOf Try.f99) (C99.xs l) (heapOf (C99.L l)) (C99.val l) (C99.keep l) [] []
theorem vc99 (l : List Int) : (V99 l) = ((∃ (a : AK), (a.acc = 0 ∧ l.length = l.length ∧ (∀ (i : Nat), i < l.length → gD l i = gD l i) ∧ (↑l.length : Int) = (↑l.length : Int) ∧ (↑a.k : Int) = 0) ∧ a.k ≤ l.length ∧
 sumFrom a.acc (List.drop a.k l) = sumFrom 0 l) ∧ ∀ (a : AK), a.k ≤ l.length ∧ sumFrom a.acc (List.drop a.k l) = sumFrom 0 l → bif decide ((↑a.k : Int) < (↑l.length : Int)) then (0 ≤ (↑a.k : Int) ∧ (↑a.k : Int) <
 (↑l.length : Int)) ∧ ∃ (a_2 : AK), (a_2.acc = IntKind.i64.wrap (a.acc + gD l a.k) ∧ l.length = l.length ∧ (∀ (i : Nat), i < l.length → gD l i = gD l i) ∧ (↑l.length : Int) = (↑l.length : Int) ∧ (↑a_2.k : Int) =
 IntKind.i64.wrap ((↑a.k : Int) + 1)) ∧ (a_2.k ≤ l.length ∧ sumFrom a_2.acc (List.drop a_2.k l) = sumFrom 0 l) ∧ l.length - a_2.k < l.length - a.k else sumFrom 0 l = a.acc) := by kernel_rfl
theorem p99 (l : List Int) (h : l.length < 4611686018427387904) : V99 l := by
  rw [vc99]; simp only [condP, eq_self, implies_true, and_self, true_and, and_true, true_implies, forall_const, decide_eq_true_eq, decide_eq_false_iff_not, Int.toNat_natCast, dSpan_eSpan, dReach_eReach, dWay_eWay, dStep_eStep, dFar_eFar, dInt_eInt, Nat.zero_add, Int.zero_sub, Nat.le_eq, Nat.succ_eq_add_one, Nat.add_one_le_iff, Bool.not_eq_true', Bool.not_eq_false', rng_length, dSpan_mk, dReach_mk, dWay_mk, dStep_mk, dFar_mk, rng_getD]
  refine ⟨⟨⟨0, 0⟩, ⟨rfl, rfl⟩, Nat.zero_le _, rfl⟩, fun s ⟨h1, h2⟩ => ⟨fun hlt => ⟨⟨by omega, hlt⟩, ⟨⟨wr (s.acc + gD l s.k), s.k + 1⟩, ⟨rfl, (wsucc (by omega)).symm⟩, ⟨by show s.k + 1 ≤ _; omega, ?_⟩, by show _ - (s.k + 1) < _; omega⟩⟩, fun hge => ?_⟩⟩
  · rw [drop_gD (by omega)] at h2; exact h2
  · rw [List.drop_eq_nil_of_le (by omega)] at h2; exact h2.symm
theorem ok99 : SpecOk Try.prog 99 (C99.spec d99) := okC C99 A99 [] [] Try.func99 (fun _ => by kernel_rfl) (fun _ => gok_nil) p99 (fun _ => noI rfl rfl) _
def begB (r : Nat) (n : Nat) (N : NetL) : HCell := .live (.box [.own r 5 0 n, .int N.g.length, .int N.r.length])
def begN (N : NetL) : HCell := .live (.box [.d nilL, .int N.g.length, .int N.r.length])
def begR (n : Nat) (all : List Way) : HCell := .live (.row 5 n fun i => eWay (gD all i))
def begO (N : NetL) : HCell := .live (.box [.d (eSpansL N.g), .d (eReachesL N.r)])
def clampW (w : Way) : Way := { w with now := min (max 0 w.sp.lo) w.sp.hi }
def A67 (N : NetL) : Ann := { ann 102 [] with mt := fun id => id == 5 || id == 10, loops := fun id => if id = 3 then some [{ α := One, dflt := default, T := fun _ => ⟨[(1, .bptr 200 0), (3, .bptr 201 0), (20, .d (eReachesL N.r)), (21, .int N.r.length), (22, .int 0)], [(200, begO N), (201, begN N)]⟩, inv := fun _ => True, meas := fun _ => N.r.length, first := [(200, 1000), (201, 2128)] }, { α := Nat, dflt := 0, T := fun k => ⟨[(1, .bptr 200 0), (3, .bptr 201 0), (20, .d (eReachesL N.r)), (21, .int N.r.length), (22, .int k)], [(200, begO N), (201, begB 202 k N), (202, begR k (begunAll N))]⟩, inv := fun k => k ≤ N.r.length, meas := fun k => N.r.length - k, again := [(202, 6224)] }] else if id = 8 then some [{ α := One, dflt := default, T := fun _ => ⟨[(3, .bptr 201 0), (46, .d (eSpansL N.g)), (47, .int N.g.length), (48, .int 0)], [(201, begN N)]⟩, inv := fun _ => N.r.length = 0, meas := fun _ => N.g.length }, { α := Nat, dflt := 0, T := fun k => ⟨[(3, .bptr 201 0), (46, .d (eSpansL N.g)), (47, .int N.g.length), (48, .int k)], [(201, begB 202 (N.r.length + k) N), (202, begR (N.r.length + k) (begunAll N))]⟩, inv := fun k => k ≤ N.g.length, meas := fun k => N.g.length - k, again := [(202, 11240)] }] else if id = 13 then some [{ α := KW, dflt := default, T := fun s => ⟨[(3, .bptr 201 0), (77, .own 202 5 0 s.all.length), (78, .int s.all.length), (79, .int s.k)], [(201, begB 202 s.all.length N), (202, begR s.all.length s.all)]⟩, inv := fun s => s.k ≤ s.all.length ∧ s.all.length = N.r.length + N.g.length ∧ ∀ i, i < s.all.length → gD s.all i = if i < s.k then clampW (gD (begunAll N) i) else gD (begunAll N) i, meas := fun s => s.all.length - s.k }] else none }
def C67 : Ctr := { α := NetL, xs := fun N => [.d (eNetL N)], L := fun _ => [], val := fun _ => .bptr 0 0, keep := fun N => [(0, .live (deskB (begunM N) 1)), (1, .live (deskR (begunM N)))], pre := fun N => [1 ≤ N.g.length ∧ N.g.length ≤ 1000, N.r.length ≤ 1000] }
def decNet : DVal → Option NetL
  | .agg [.list _ n g _, .list _ m r _] => some ⟨rng n fun i => dSpan (g i), rng m fun i => dReach (r i)⟩
  | _ => none
def d67 : List AVal → Heap → Option (NetL × List (Nat × Nat) × List Nat)
  | [.d x], _ => match decNet x with
    | some N => some (N, [], [])
    | none => none
  | _, _ => none
def V67 (N : NetL) : Prop := fnVC Try.prog (A67 N) Try.f67 (bodyOf Try.f67) (C67.xs N) (heapOf (C67.L N)) (C67.val N) (C67.keep N) [(0, 201), (1, 202)] []
abbrev z67_0 (N : NetL) : Prop := N.r.length = N.r.length
abbrev z67_1 (N : NetL) : Prop := ∀ (i : Nat), i < N.r.length → (gD N.r i).fr = (gD N.r i).fr ∧ (gD N.r i).to = (gD N.r i).to ∧ (gD N.r i).sp.lo = (gD N.r i).sp.lo ∧ (gD N.r i).sp.hi = (gD N.r i).sp.hi
abbrev z67_2 (N : NetL) : Prop := (↑N.r.length : Int) = (↑N.r.length : Int)
abbrev z67_3 : Prop := Int.ofNat (0 : Nat) = Int.ofNat (0 : Nat)
abbrev z67_4 (N : NetL) : Prop := N.g.length = N.g.length
abbrev z67_5 (N : NetL) : Prop := ∀ (i : Nat), i < N.g.length → (gD N.g i).lo = (gD N.g i).lo ∧ (gD N.g i).hi = (gD N.g i).hi
abbrev z67_6 : Prop := (0 : Nat) = (0 : Nat)
abbrev z67_7 (N : NetL) : Prop := (↑N.g.length : Int) = (↑N.g.length : Int)
abbrev z67_8 (N : NetL) : Prop := z67_6 ∧ (∀ (i : Nat), i < (0 : Nat) → false = false) ∧ z67_7 N ∧ z67_2 N
abbrev z67_9 (N : NetL) : Prop := (0 : Int) < (↑N.r.length : Int)
abbrev z67_10 : Prop := (0 : Int) ≤ (0 : Int)
abbrev z67_11 : Prop := (0 : Nat) < (1 : Nat)
abbrev z67_12 : Prop := (5 : Nat) = (5 : Nat)
abbrev z67_13 : Prop := (1 : Nat) ≤ (1 : Nat) ∧ (z67_11 → z67_12)
abbrev z67_14 : Prop := (True ∧ ((0 : Nat) < (0 : Nat) → (0 : Nat) = (5 : Nat))) ∧ z67_13 ∧ (true = true → z67_11) ∧ (1 : Nat) ≤ (9223372036854775807 : Nat) ∧ (40 : Nat) ≤ (140737488355328 : Nat)
abbrev z67_15 (a : Nat) : Prop := (↑a : Int) = IntKind.i64.wrap ((0 : Int) + (1 : Int))
abbrev z67_16 (N : NetL) : Reach := gD N.r (Int.toNat (0 : Int))
abbrev z67_17 (N : NetL) : Span := (z67_16 N).sp
abbrev z67_18 (N : NetL) (i : Nat) : Prop := (gD (begunAll N) i).now = (0 : Int)
abbrev z67_19 (N : NetL) (a : Nat) : Nat := N.r.length - a
abbrev z67_20 (N : NetL) : Prop := N.r.length = (0 : Nat)
abbrev z67_21 (N : NetL) : Prop := (0 : Int) < (↑N.g.length : Int)
abbrev z67_22 (N : NetL) (a : Nat) : Nat := N.r.length + a
abbrev z67_23 (N : NetL) (a : Nat) : Prop := z67_22 N a = (1 : Nat)
abbrev z67_24 (i : Nat) (N : NetL) (a : Nat) : Prop := i < z67_22 N a
abbrev z67_25 (N : NetL) : Span := gD N.g (Int.toNat (0 : Int))
abbrev z67_26 (N : NetL) (a : Nat) : Nat := N.g.length - a
abbrev z67_27 (a : KW) (N : NetL) : Prop := a.k ≤ a.all.length ∧ a.all.length = N.r.length + N.g.length ∧ ∀ (i : Nat), i < a.all.length → gD a.all i = if i < a.k then clampW (gD (begunAll N) i) else gD (begunAll N) i
abbrev z67_28 (a : KW) : Prop := (↑a.k : Int) < (↑a.all.length : Int)
abbrev z67_29 (a : KW) : Nat := (0 : Nat) + a.k
abbrev z67_30 (a : KW) : Prop := ((0 : Int) ≤ (↑a.k : Int) ∧ z67_28 a) ∧ (z67_29 a).succ.le a.all.length
abbrev z67_31 (a : KW) (a1 : KW) : Prop := a.all.length = a1.all.length
abbrev z67_32 (i : Nat) (a : KW) : Bool := decide (i = z67_29 a)
abbrev z67_33 (a : KW) : Way := gD a.all (z67_29 a)
abbrev z67_34 (a : KW) : Span := (z67_33 a).sp
abbrev z67_35 (a : KW) : Int := (z67_34 a).lo
abbrev z67_36 (a : KW) : Int := (z67_34 a).hi
abbrev z67_37 (a : KW) : Nat := a.all.length - a.k
abbrev z67_38 (N : NetL) (a : KW) : Prop := (begunM N).all.length = a.all.length
abbrev z67_39 (N : NetL) : Prop := ∀ (a : KW), z67_27 a N → bif decide (z67_28 a) then z67_30 a ∧ z67_30 a ∧ ∃ (a_2 : KW), (z67_6 ∧ z67_31 a_2 a ∧ (↑a_2.all.length : Int) = (↑a.all.length : Int) ∧ (↑a_2.k : Int) =
 IntKind.i64.wrap ((↑a.k : Int) + (1 : Int)) ∧ z67_6 ∧ z67_31 a_2 a ∧ z67_7 N ∧ z67_2 N ∧ z67_31 a_2 a ∧ ∀ (i : Nat), i < a_2.all.length → ((gD a_2.all i).fr = bif z67_32 i a then (z67_33 a).fr else (gD a.all i).fr) ∧
 ((gD a_2.all i).to = bif z67_32 i a then (z67_33 a).to else (gD a.all i).to) ∧ ((gD a_2.all i).sp.lo = bif z67_32 i a then z67_35 a else (gD a.all i).sp.lo) ∧ ((gD a_2.all i).sp.hi = bif z67_32 i a then z67_36 a else (gD
 a.all i).sp.hi) ∧ (gD a_2.all i).now = bif z67_32 i a then minI (maxI (0 : Int) (z67_35 a)) (z67_36 a) else (gD a.all i).now) ∧ z67_27 a_2 N ∧ z67_37 a_2 < z67_37 a else z67_6 ∧ z67_38 N a ∧ (↑(begunM N).out : Int) =
 (↑N.g.length : Int) ∧ (↑(begunM N).nR : Int) = (↑N.r.length : Int) ∧ z67_38 N a ∧ ∀ (i : Nat), i < (begunM N).all.length → (gD (begunM N).all i).fr = (gD a.all i).fr ∧ (gD (begunM N).all i).to = (gD a.all i).to ∧ (gD
 (begunM N).all i).sp.lo = (gD a.all i).sp.lo ∧ (gD (begunM N).all i).sp.hi = (gD a.all i).sp.hi ∧ (gD (begunM N).all i).now = (gD a.all i).now
abbrev z67_40 (a : Nat) (N : NetL) : Prop := (↑a : Int) < (↑N.g.length : Int)
abbrev z67_41 (a : Nat) : Prop := (0 : Int) ≤ (↑a : Int)
abbrev z67_42 : Prop := false = true → z67_11
abbrev z67_43 (N : NetL) (a : Nat) : Nat := z67_22 N a + (1 : Nat)
abbrev z67_44 (a : Nat) (a1 : Nat) : Prop := (↑a : Int) = IntKind.i64.wrap ((↑a1 : Int) + (1 : Int))
abbrev z67_45 (N : NetL) (a : Nat) (a1 : Nat) : Prop := z67_22 N a = z67_43 N a1
abbrev z67_46 (i : Nat) (N : NetL) (a : Nat) : Bool := decide (z67_24 i N a)
abbrev z67_47 (a : KW) (N : NetL) (a1 : Nat) : Prop := a.all.length = z67_22 N a1
abbrev z67_48 (N : NetL) : Prop := (∀ (a : One), z67_20 N → bif decide (z67_21 N) then (z67_10 ∧ z67_21 N) ∧ z67_14 ∧ ∃ (a : Nat), (z67_4 N ∧ z67_5 N ∧ z67_7 N ∧ z67_15 a ∧ z67_6 ∧ z67_23 N a ∧ z67_7 N ∧ z67_2 N ∧ z67_23
 N a ∧ ∀ (i : Nat), z67_24 i N a → (gD (begunAll N) i).fr = (↑N.g.length : Int) ∧ (gD (begunAll N) i).to = (0 : Int) ∧ (gD (begunAll N) i).sp.lo = (z67_25 N).lo ∧ (gD (begunAll N) i).sp.hi = (z67_25 N).hi ∧ z67_18 N i) ∧
 a.le N.g.length ∧ z67_26 N a < N.g.length else False ∧ z67_39 N) ∧ ∀ (a : Nat), a.le N.g.length → bif decide (z67_40 a N) then (z67_41 a ∧ z67_40 a N) ∧ ((z67_22 N a = z67_22 N a ∧ ((0 : Nat) < z67_22 N a → z67_12)) ∧
 z67_13 ∧ z67_42 ∧ z67_43 N a ≤ (9223372036854775807 : Nat) ∧ z67_43 N a * (40 : Nat) ≤ (140737488355328 : Nat)) ∧ ∃ (a_2 : Nat), (z67_4 N ∧ z67_5 N ∧ z67_7 N ∧ z67_44 a_2 a ∧ z67_6 ∧ z67_45 N a_2 a ∧ z67_7 N ∧ z67_2 N ∧
 z67_45 N a_2 a ∧ ∀ (i : Nat), z67_24 i N a_2 → ((gD (begunAll N) i).fr = bif z67_46 i N a then (gD (begunAll N) i).fr else (↑N.g.length : Int)) ∧ ((gD (begunAll N) i).to = bif z67_46 i N a then (gD (begunAll N) i).to
 else (↑a : Int)) ∧ ((gD (begunAll N) i).sp.lo = bif z67_46 i N a then (gD (begunAll N) i).sp.lo else (gD N.g a).lo) ∧ ((gD (begunAll N) i).sp.hi = bif z67_46 i N a then (gD (begunAll N) i).sp.hi else (gD N.g a).hi) ∧ (gD
 (begunAll N) i).now = bif z67_46 i N a then (gD (begunAll N) i).now else (0 : Int)) ∧ a_2.le N.g.length ∧ z67_26 N a_2 < z67_26 N a else (∃ (a_2 : KW), (z67_6 ∧ z67_47 a_2 N a ∧ (↑a_2.all.length : Int) = (↑(z67_22 N a) :
 Int) ∧ (↑a_2.k : Int) = (0 : Int) ∧ z67_6 ∧ z67_47 a_2 N a ∧ z67_7 N ∧ z67_2 N ∧ z67_47 a_2 N a ∧ ∀ (i : Nat), i < a_2.all.length → (gD a_2.all i).fr = (gD (begunAll N) i).fr ∧ (gD a_2.all i).to = (gD (begunAll N) i).to
 ∧ (gD a_2.all i).sp.lo = (gD (begunAll N) i).sp.lo ∧ (gD a_2.all i).sp.hi = (gD (begunAll N) i).sp.hi ∧ (gD a_2.all i).now = (gD (begunAll N) i).now) ∧ z67_27 a_2 N) ∧ z67_39 N
abbrev z67_49 (a : Nat) (N : NetL) : Prop := (↑a : Int) < (↑N.r.length : Int)
abbrev z67_50 (a : Nat) : Nat := a + (1 : Nat)
abbrev z67_51 (a : Nat) (a1 : Nat) : Prop := a = z67_50 a1
abbrev z67_52 (N : NetL) (a : Nat) (a1 : Nat) : Prop := z67_22 N a = a1
theorem vc67 (N : NetL) : (V67 N) = ((∃ (a : One), (z67_0 N ∧ z67_1 N ∧ z67_2 N ∧ z67_3 ∧ z67_4 N ∧ z67_5 N ∧ z67_0 N ∧ z67_1 N ∧ z67_8 N) ∧ True) ∧ (∀ (a : One), True → bif decide (z67_9 N) then (z67_10 ∧ z67_9 N) ∧
 z67_14 ∧ ∃ (a : Nat), (z67_0 N ∧ z67_1 N ∧ z67_2 N ∧ z67_15 a ∧ z67_4 N ∧ z67_5 N ∧ z67_0 N ∧ z67_1 N ∧ z67_6 ∧ a = (1 : Nat) ∧ z67_7 N ∧ z67_2 N ∧ a = (1 : Nat) ∧ ∀ (i : Nat), i < a → (gD (begunAll N) i).fr = (z67_16
 N).fr ∧ (gD (begunAll N) i).to = (z67_16 N).to ∧ (gD (begunAll N) i).sp.lo = (z67_17 N).lo ∧ (gD (begunAll N) i).sp.hi = (z67_17 N).hi ∧ z67_18 N i) ∧ a.le N.r.length ∧ z67_19 N a < N.r.length else (∃ (a : One), (z67_4 N
 ∧ z67_5 N ∧ z67_7 N ∧ z67_3 ∧ z67_8 N) ∧ z67_20 N) ∧ z67_48 N) ∧ ∀ (a : Nat), a.le N.r.length → bif decide (z67_49 a N) then (z67_41 a ∧ z67_49 a N) ∧ ((a = a ∧ ((0 : Nat) < a → z67_12)) ∧ z67_13 ∧ z67_42 ∧ z67_50 a ≤
 (9223372036854775807 : Nat) ∧ z67_50 a * (40 : Nat) ≤ (140737488355328 : Nat)) ∧ ∃ (a_2 : Nat), (z67_0 N ∧ z67_1 N ∧ z67_2 N ∧ z67_44 a_2 a ∧ z67_4 N ∧ z67_5 N ∧ z67_0 N ∧ z67_1 N ∧ z67_6 ∧ z67_51 a_2 a ∧ z67_7 N ∧ z67_2
 N ∧ z67_51 a_2 a ∧ ∀ (i : Nat), i < a_2 → ((gD (begunAll N) i).fr = bif decide (i < a) then (gD (begunAll N) i).fr else (gD N.r a).fr) ∧ ((gD (begunAll N) i).to = bif decide (i < a) then (gD (begunAll N) i).to else (gD
 N.r a).to) ∧ ((gD (begunAll N) i).sp.lo = bif decide (i < a) then (gD (begunAll N) i).sp.lo else (gD N.r a).sp.lo) ∧ ((gD (begunAll N) i).sp.hi = bif decide (i < a) then (gD (begunAll N) i).sp.hi else (gD N.r a).sp.hi) ∧
 (gD (begunAll N) i).now = bif decide (i < a) then (gD (begunAll N) i).now else (0 : Int)) ∧ a_2.le N.r.length ∧ z67_19 N a_2 < z67_19 N a else (∃ (a_2 : Nat), (z67_4 N ∧ z67_5 N ∧ z67_7 N ∧ (↑a_2 : Int) = (0 : Int) ∧
 z67_6 ∧ z67_52 N a_2 a ∧ z67_7 N ∧ z67_2 N ∧ z67_52 N a_2 a ∧ ∀ (i : Nat), z67_24 i N a_2 → (gD (begunAll N) i).fr = (gD (begunAll N) i).fr ∧ (gD (begunAll N) i).to = (gD (begunAll N) i).to ∧ (gD (begunAll N) i).sp.lo =
 (gD (begunAll N) i).sp.lo ∧ (gD (begunAll N) i).sp.hi = (gD (begunAll N) i).sp.hi ∧ (gD (begunAll N) i).now = (gD (begunAll N) i).now) ∧ a_2.le N.g.length) ∧ z67_48 N) := by kernel_rfl
theorem beg_len (N : NetL) : (begunAll N).length = N.r.length + N.g.length := by simp [begunAll]
theorem beg_lo {N : NetL} {i : Nat} (h : i < N.r.length) : gD (begunAll N) i = ⟨(gD N.r i).fr, (gD N.r i).to, (gD N.r i).sp, 0⟩ := by
  unfold begunAll
  rw [gD_append, if_pos (by simpa using h)]
  simp [gD, List.getD_eq_getElem?_getD, h]
theorem beg_hi {N : NetL} {i : Nat} (h : i < N.g.length) : gD (begunAll N) (N.r.length + i) = ⟨N.g.length, i, gD N.g i, 0⟩ := by
  unfold begunAll
  rw [gD_append, if_neg (by simp)]
  simp [gD, List.getD_eq_getElem?_getD, h]
theorem gD_map {α β : Type} [Inhabited α] [Inhabited β] (f : α → β) {l : List α} {i : Nat} (h : i < l.length) : gD (l.map f) i = f (gD l i) := by
  simp [gD, List.getD_eq_getElem?_getD, h]
theorem begunM_all (N : NetL) : (begunM N).all = (begunAll N).map clampW := rfl
theorem begunM_len (N : NetL) : (begunM N).all.length = N.r.length + N.g.length := by rw [begunM_all]; simp [beg_len]
theorem p67 (N : NetL) (h1 : 1 ≤ N.g.length ∧ N.g.length ≤ 1000) (h2 : N.r.length ≤ 1000) : V67 N := by
  rw [vc67]; delta z67_0 z67_1 z67_2 z67_3 z67_4 z67_5 z67_6 z67_7 z67_8 z67_9 z67_10 z67_11 z67_12 z67_13 z67_14 z67_15 z67_16 z67_17 z67_18 z67_19 z67_20 z67_21 z67_22 z67_23 z67_24 z67_25 z67_26 z67_27 z67_28 z67_29 z67_30 z67_31 z67_32 z67_33 z67_34 z67_35 z67_36 z67_37 z67_38 z67_39 z67_40 z67_41 z67_42 z67_43 z67_44 z67_45 z67_46 z67_47 z67_48 z67_49 z67_50 z67_51 z67_52; simp only [condP, eq_self, implies_true, and_self, true_and, and_true, true_implies, forall_const, decide_eq_true_eq, decide_eq_false_iff_not, Int.toNat_natCast, dSpan_eSpan, dReach_eReach, dWay_eWay, dStep_eStep, dFar_eFar, dInt_eInt, Nat.zero_add, Int.zero_sub, Nat.le_eq, Nat.succ_eq_add_one, Nat.add_one_le_iff, Bool.not_eq_true', Bool.not_eq_false', rng_length, dSpan_mk, dReach_mk, dWay_mk, dStep_mk, dFar_mk, rng_getD, minI_eq, maxI_eq]
  refine ⟨⟨⟨0⟩, trivial⟩, ⟨fun hlt => ?a1, fun hge => ⟨⟨⟨0⟩, by omega⟩, ?c1, ?b1⟩⟩, fun k hk => ⟨fun hlt => ?a3, fun hge => ⟨?a4, ?c2, ?b2⟩⟩⟩
  case a1 =>
    refine ⟨⟨by omega, hlt⟩, ⟨by decide, by decide, by decide, by decide, by decide⟩, 1, ⟨rfl, rfl, rfl, fun i hi => ?_⟩, by omega, by omega⟩
    have : i = 0 := by omega
    subst this
    rw [beg_lo (by omega)]; exact ⟨rfl, rfl, rfl, rfl, rfl⟩
  case a3 =>
    refine ⟨⟨by omega, hlt⟩, ⟨by decide, by decide, by omega, by omega⟩, k + 1, ⟨(wsucc (by omega)).symm, rfl, rfl, fun i hi => ?_⟩, by omega, by omega⟩
    by_cases hi2 : i < k
    · simp [hi2]
    · have : i = k := by omega
      subst this
      simp only [hi2, decide_false, cond_false]
      rw [beg_lo (by omega)]; exact ⟨rfl, rfl, rfl, rfl, rfl⟩
  case a4 =>
    have : k = N.r.length := by omega
    subst this
    exact ⟨0, by simp, by omega⟩
  case c1 | c2 =>
    intro h0
    refine ⟨fun hlt => ?_, fun hge => by omega⟩
    refine ⟨⟨by omega, hlt⟩, ⟨by decide, by decide, by decide, by decide, by decide⟩, 1, ⟨rfl, by omega, by omega, fun i hi => ?_⟩, by omega, by omega⟩
    have : i = 0 := by omega
    subst this
    have := beg_hi (N := N) (i := 0) (by omega)
    rw [h0] at this
    rw [this]; exact ⟨rfl, rfl, rfl, rfl, rfl⟩
  case b1 | b2 =>
    intro k hk
    refine ⟨fun hlt => ?_, fun hge => ⟨?_, fun s ⟨g1, g2, g3⟩ => ⟨fun hlt => ?_, fun hge => ?_⟩⟩⟩
    · refine ⟨⟨by omega, hlt⟩, ⟨by decide, by decide, by omega, by omega⟩, k + 1, ⟨(wsucc (by omega)).symm, by omega, by omega, fun i hi => ?_⟩, by omega, by omega⟩
      by_cases hi2 : i < N.r.length + k
      · simp [hi2]
      · have : i = N.r.length + k := by omega
        subst this
        simp only [hi2, decide_false, cond_false]
        rw [beg_hi (by omega)]; exact ⟨rfl, rfl, rfl, rfl, rfl⟩
    · have : k = N.g.length := by omega
      subst this
      exact ⟨⟨0, begunAll N⟩, ⟨beg_len N, by rw [beg_len], rfl, beg_len N, beg_len N, fun i _ => ⟨rfl, rfl, rfl, rfl, rfl⟩⟩, by simp, beg_len N, fun i _ => by simp⟩
    · have hk : s.k < s.all.length := by omega
      refine ⟨⟨⟨by omega, hlt⟩, hk⟩, ⟨⟨by omega, hlt⟩, hk⟩, ⟨s.k + 1, s.all.modify s.k clampW⟩, ⟨by simp, by simp, (wsucc (by omega)).symm, by simp, by simp, fun i hi => ?_⟩, ⟨by simp; omega, by simp; omega, fun i hi => ?_⟩, by simp; omega⟩
      · rw [gD_modify hk]
        by_cases he : i = s.k
        · subst he; simp [clampW]
        · simp [he]
      · have hi : i < s.all.length := by simpa using hi
        show gD (s.all.modify s.k clampW) i = if i < s.k + 1 then _ else _
        rw [gD_modify hk]
        by_cases he : i = s.k
        · subst he; rw [if_pos rfl, if_pos (by omega), g3 _ hk, if_neg (by omega)]
        · rw [if_neg he, g3 _ hi]
          by_cases hi2 : i < s.k
          · rw [if_pos hi2, if_pos (by omega)]
          · rw [if_neg hi2, if_neg (by omega)]
    · have hs : (begunM N).all = s.all := by
        apply gD_ext
        · rw [begunM_len, g2]
        · intro i hi
          rw [begunM_len] at hi
          rw [begunM_all, gD_map _ (by rw [beg_len]; exact hi), g3 _ (by omega), if_pos (by omega)]
      rw [hs]
      exact ⟨rfl, rfl, rfl, rfl, fun i _ => ⟨rfl, rfl, rfl, rfl, rfl⟩⟩
theorem ok67 : SpecOk Try.prog 67 (C67.spec d67) := okC C67 A67 [(0, 201), (1, 202)] [] Try.func67 (fun _ => by kernel_rfl) (fun _ => gok_nil) (fun N h => p67 N h.1 h.2) (fun _ => noI rfl rfl) _
def rowL (n : Nat) (l : List Int) : HCell := .live (.row 1 n fun i => eInt (gD l i))
def nows (d : Desk) : List Int := d.all.map fun w => w.now
def A56 (d : Desk) : Ann := { ann 49 [] with E := [100, 101], mt := fun id => id == 5, loops := fun id => if id = 3 then some [{ α := Nat, dflt := 0, T := fun k => ⟨[(0, .bptr 100 0), (2, .bptr 200 0), (3, .d nilL), (11, .own 101 5 0 d.all.length), (12, .int d.all.length), (13, .int k)], deskK d ++ [(200, .live (.box [.d nilL, .d nilL]))]⟩, inv := fun k => k = 0, meas := fun _ => d.all.length, first := [(200, 1000)] }, { α := Nat, dflt := 0, T := fun k => ⟨[(0, .bptr 100 0), (2, .bptr 200 0), (3, .own 202 1 0 k), (11, .own 101 5 0 d.all.length), (12, .int d.all.length), (13, .int k)], deskK d ++ [(200, .live (.box [.d nilL, .d nilL])), (202, rowL k (nows d))]⟩, inv := fun k => k ≤ d.all.length, meas := fun k => d.all.length - k, again := [(202, 6064)] }] else none }
def C56 : Ctr := { ro := [100, 101], α := Desk, xs := fun _ => [.bptr 100 0], L := deskL, val := fun d => .agg [.own 0 1 0 d.nR, .own 1 1 0 d.out], keep := fun d => deskK d ++ [(0, rowL d.nR (truthM d).f), (1, rowL d.out (truthM d).t)], pre := fun d => [1 ≤ d.out ∧ d.all.length ≤ 1000, d.nR + d.out ≤ d.all.length] }
def V56 (d : Desk) : Prop := fnVC Try.prog (A56 d) Try.f56 (bodyOf Try.f56) (C56.xs d) (heapOf (C56.L d)) (C56.val d) (C56.keep d) [(0, 8064), (1, 8160)] []
abbrev z56_0 : Prop := 0 = 0
abbrev z56_1 : Prop := ∀ (i : Nat), i < 0 → false = false
abbrev z56_2 (d : Desk) : Prop := d.all.length = d.all.length
abbrev z56_3 (d : Desk) : Prop := (↑d.all.length : Int) = (↑d.all.length : Int)
abbrev z56_4 (d : Desk) : Prop := (↑d.out : Int) = (↑d.out : Int)
abbrev z56_5 (d : Desk) : Prop := (↑d.nR : Int) = (↑d.nR : Int)
abbrev z56_6 (d : Desk) : Prop := ∀ (i : Nat), i < d.all.length → (gD d.all i).fr = (gD d.all i).fr ∧ (gD d.all i).to = (gD d.all i).to ∧ (gD d.all i).sp.lo = (gD d.all i).sp.lo ∧ (gD d.all i).sp.hi = (gD d.all i).sp.hi
 ∧ (gD d.all i).now = (gD d.all i).now
abbrev z56_7 (a : Nat) (d : Desk) : Prop := (↑a : Int) < (↑d.all.length : Int)
abbrev z56_8 (a : Nat) (d : Desk) : Bool := decide (z56_7 a d)
abbrev z56_9 (a : Nat) : Nat := 0 + a
abbrev z56_10 (a : Nat) (d : Desk) : Prop := (0 ≤ (↑a : Int) ∧ z56_7 a d) ∧ (z56_9 a).succ.le d.all.length
abbrev z56_11 : Prop := True ∧ (0 < 0 → 0 = 1)
abbrev z56_12 : Prop := 0 < 1
abbrev z56_13 : Prop := 1 = 1
abbrev z56_14 : Prop := 1 ≤ 1 ∧ (z56_12 → z56_13)
abbrev z56_15 (a : Nat) (a1 : Nat) : Prop := (↑a : Int) = IntKind.i64.wrap ((↑a1 : Int) + 1)
abbrev z56_16 (d : Desk) (a : Nat) : Int := (gD d.all (z56_9 a)).now
abbrev z56_17 (d : Desk) (a : Nat) : Nat := d.all.length - a
abbrev z56_18 (d : Desk) : Prop := 0 ≤ (↑d.nR : Int)
abbrev z56_19 (d : Desk) : Prop := (z56_18 d ∧ z56_5 d ∧ (↑d.nR : Int) ≤ 9223372036854775807 ∧ (↑8 : Int) * (↑d.nR : Int) ≤ 281474976710656) ∧ 0 ≤ (↑d.out : Int) ∧ z56_4 d ∧ (↑d.out : Int) ≤ 9223372036854775807 ∧ (↑8 :
 Int) * (↑d.out : Int) ≤ 281474976710656
abbrev z56_20 (a : Nat) : Prop := 0 < a → z56_13
abbrev z56_21 (a : Nat) : Nat := a + 1
abbrev z56_22 (a : Nat) (a1 : Nat) : Prop := a = z56_21 a1
abbrev z56_23 (d : Desk) : Nat := 0 + d.nR
abbrev z56_24 (a : Nat) (d : Desk) : Nat := a - d.nR
theorem vc56 (d : Desk) : (V56 d) = ((∃ (a : Nat), (z56_0 ∧ z56_1 ∧ z56_0 ∧ z56_2 d ∧ z56_3 d ∧ (↑a : Int) = 0 ∧ z56_0 ∧ z56_2 d ∧ z56_4 d ∧ z56_5 d ∧ z56_2 d ∧ z56_6 d ∧ z56_0 ∧ z56_1 ∧ z56_0 ∧ z56_1) ∧ a = 0) ∧ (∀ (a :
 Nat), a = 0 → bif z56_8 a d then z56_10 a d ∧ (z56_11 ∧ z56_14 ∧ (true = true → z56_12) ∧ 1 ≤ 9223372036854775807 ∧ 8 ≤ 140737488355328) ∧ ∃ (a_2 : Nat), (z56_0 ∧ a_2 = 1 ∧ z56_0 ∧ z56_2 d ∧ z56_3 d ∧ z56_15 a_2 a ∧
 z56_0 ∧ z56_2 d ∧ z56_4 d ∧ z56_5 d ∧ z56_2 d ∧ z56_6 d ∧ z56_0 ∧ z56_1 ∧ z56_0 ∧ z56_1 ∧ a_2 = 1 ∧ ∀ (i : Nat), i < a_2 → gD (nows d) i = z56_16 d a) ∧ a_2.le d.all.length ∧ z56_17 d a_2 < d.all.length else z56_19 d ∧
 (z56_11 ∧ d.nR.le d.nR) ∧ False) ∧ ∀ (a : Nat), a.le d.all.length → bif z56_8 a d then z56_10 a d ∧ ((a = a ∧ z56_20 a) ∧ z56_14 ∧ (false = true → z56_12) ∧ z56_21 a ≤ 9223372036854775807 ∧ z56_21 a * 8 ≤
 140737488355328) ∧ ∃ (a_2 : Nat), (z56_0 ∧ z56_22 a_2 a ∧ z56_0 ∧ z56_2 d ∧ z56_3 d ∧ z56_15 a_2 a ∧ z56_0 ∧ z56_2 d ∧ z56_4 d ∧ z56_5 d ∧ z56_2 d ∧ z56_6 d ∧ z56_0 ∧ z56_1 ∧ z56_0 ∧ z56_1 ∧ z56_22 a_2 a ∧ ∀ (i : Nat), i
 < a_2 → gD (nows d) i = bif decide (i < a) then gD (nows d) i else z56_16 d a) ∧ a_2.le d.all.length ∧ z56_17 d a_2 < z56_17 d a else z56_19 d ∧ ((z56_9 a ≤ a ∧ z56_20 a) ∧ d.nR.le d.nR) ∧ ((z56_18 d ∧ (↑d.nR : Int) ≤
 (↑a : Int) ∧ (↑a : Int) ≤ (↑a : Int) ∧ ((↑d.nR : Int) = 0 ∨ (↑d.nR : Int) < (↑a : Int))) ∧ (z56_23 d + z56_24 a d ≤ a ∧ (0 < z56_24 a d → z56_13)) ∧ d.out.le d.out) ∧ z56_0 ∧ d.nR = d.nR ∧ z56_0 ∧ d.out = d.out ∧ z56_0 ∧
 z56_2 d ∧ z56_4 d ∧ z56_5 d ∧ z56_2 d ∧ z56_6 d ∧ d.nR = d.nR ∧ (∀ (i : Nat), i < d.nR → gD (truthM d).f i = bif decide (i < min a d.nR) then gD (nows d) (z56_9 i) else 0) ∧ d.out = d.out ∧ ∀ (i : Nat), i < d.out → gD
 (truthM d).t i = bif decide (i < min (z56_24 a d) d.out) then gD (nows d) (z56_23 d + i) else 0) := by kernel_rfl
theorem gD_range {α : Type} [Inhabited α] (f : Nat → α) {n i : Nat} (h : i < n) : gD ((List.range n).map f) i = f i := by
  simp [gD, List.getD_eq_getElem?_getD, h]
theorem nows_gD {d : Desk} {i : Nat} (h : i < d.all.length) : gD (nows d) i = (gD d.all i).now := gD_map _ h
theorem p56 (d : Desk) (h1 : 1 ≤ d.out ∧ d.all.length ≤ 1000) (h2 : d.nR + d.out ≤ d.all.length) : V56 d := by
  rw [vc56]; delta z56_0 z56_1 z56_2 z56_3 z56_4 z56_5 z56_6 z56_7 z56_8 z56_9 z56_10 z56_11 z56_12 z56_13 z56_14 z56_15 z56_16 z56_17 z56_18 z56_19 z56_20 z56_21 z56_22 z56_23 z56_24; simp only [condP, eq_self, implies_true, and_self, true_and, and_true, true_implies, forall_const, decide_eq_true_eq, decide_eq_false_iff_not, Int.toNat_natCast, dSpan_eSpan, dReach_eReach, dWay_eWay, dStep_eStep, dFar_eFar, dInt_eInt, Nat.zero_add, Int.zero_sub, Nat.le_eq, Nat.succ_eq_add_one, Nat.add_one_le_iff, Bool.not_eq_true', Bool.not_eq_false', rng_length, dSpan_mk, dReach_mk, dWay_mk, dStep_mk, dFar_mk, rng_getD]
  refine ⟨⟨0, rfl, rfl⟩, ⟨fun k hk => ⟨fun hlt => ?_, fun hge => by omega⟩, fun k hk => ⟨fun hlt => ?_, fun hge => ?_⟩⟩⟩
  · subst hk
    refine ⟨⟨⟨by omega, by omega⟩, by omega⟩, ⟨by decide, by decide, by decide, by decide, by decide⟩, 1, ⟨rfl, rfl, rfl, fun i hi => ?_⟩, by omega, by omega⟩
    have : i = 0 := by omega
    subst this; exact nows_gD (by omega)
  · refine ⟨⟨⟨by omega, by omega⟩, by omega⟩, ⟨by decide, by decide, by omega, by omega⟩, k + 1, ⟨rfl, (wsucc (by omega)).symm, rfl, fun i hi => ?_⟩, by omega, by omega⟩
    by_cases hi2 : i < k
    · simp [hi2]
    · have : i = k := by omega
      subst this
      simp only [hi2, decide_false, cond_false]
      exact nows_gD (by omega)
  · have hk : k = d.all.length := by omega
    subst hk
    refine ⟨⟨⟨by omega, by omega, by omega⟩, by omega, by omega, by omega⟩, ⟨Nat.le_refl _, Nat.le_refl _⟩, ⟨⟨by omega, by omega, Int.le_refl _, by omega⟩, by omega, Nat.le_refl _⟩, fun i hi => ?_, fun i hi => ?_⟩
    · rw [show decide (i < min d.all.length d.nR) = true by simp; omega]
      simp only [cond_true]
      rw [nows_gD (by omega)]; exact gD_range (fun i => (gD d.all i).now) hi
    · rw [show decide (i < min (d.all.length - d.nR) d.out) = true by simp; omega]
      simp only [cond_true]
      rw [nows_gD (by omega)]; exact gD_range (fun i => (gD d.all (d.nR + i)).now) hi
theorem ok56 : SpecOk Try.prog 56 (C56.spec dDesk) := okC C56 A56 [(0, 8064), (1, 8160)] [] Try.func56 (fun _ => by kernel_rfl) (fun _ => gok_nil) (fun d h => p56 d h.1 h.2) (fun _ => noI rfl rfl) _
structure NT where
  N : NetL
  T : TruthL
  deriving Inhabited
def A70 (a : NT) : Ann := { ann 51 [(98, s98), (99, C99.spec d99)] with mt := fun id => id == 5 || id == 10, loops := fun id => if id = 3 then some [{ α := Nat, dflt := 0, T := fun k => ⟨[(2, .bptr 200 0), (3, .bptr 201 0), (5, .d nilL), (11, .d (eReachesL a.N.r)), (12, .int a.N.r.length), (13, .int k)], [(200, begO a.N), (201, .live (.box [.d (eIntsL a.T.f), .d (eIntsL a.T.t)]))]⟩, inv := fun k => k = 0, meas := fun _ => a.N.r.length, first := [(200, 1000), (201, 1016)] }, { α := Nat, dflt := 0, T := fun k => ⟨[(2, .bptr 200 0), (3, .bptr 201 0), (5, .own 202 1 0 k), (11, .d (eReachesL a.N.r)), (12, .int a.N.r.length), (13, .int k)], [(200, begO a.N), (201, .live (.box [.d (eIntsL a.T.f), .d (eIntsL a.T.t)])), (202, rowL k (costL a.N a.T))]⟩, inv := fun k => k ≤ a.N.r.length, meas := fun k => a.N.r.length - k, again := [(202, 6160)] }] else if id = 8 then some [{ α := Nat, dflt := 0, T := fun k => ⟨[(3, .bptr 201 0), (5, .d nilL), (31, .d (eSpansL a.N.g)), (32, .int a.N.g.length), (33, .int k)], [(201, .live (.box [.d (eIntsL a.T.f), .d (eIntsL a.T.t)]))]⟩, inv := fun k => k = 0 ∧ a.N.r.length = 0, meas := fun _ => a.N.g.length }, { α := Nat, dflt := 0, T := fun k => ⟨[(3, .bptr 201 0), (5, .own 202 1 0 (a.N.r.length + k)), (31, .d (eSpansL a.N.g)), (32, .int a.N.g.length), (33, .int k)], [(201, .live (.box [.d (eIntsL a.T.f), .d (eIntsL a.T.t)])), (202, rowL (a.N.r.length + k) (costL a.N a.T))]⟩, inv := fun k => k ≤ a.N.g.length, meas := fun k => a.N.g.length - k, again := [(202, 11144)] }] else none }
def C70 : Ctr := { α := NT, xs := fun a => [.d (eNetL a.N), .d (eTruthL a.T)], L := fun _ => [], val := fun a => .int (costM a.N a.T), keep := fun _ => [], pre := fun a => [1 ≤ a.N.g.length ∧ a.N.g.length ≤ 1000, a.N.r.length ≤ 1000, a.T.f.length = a.N.r.length, a.T.t.length = a.N.g.length] }
def d70 : List AVal → Heap → Option (NT × List (Nat × Nat) × List Nat)
  | [.d x, .agg [.own p _ _ n, .own q _ _ m]], H => match decNet x, H p, H q with
    | some N, .live (.row _ _ f), .live (.row _ _ g) => some (⟨N, rng n fun i => dInt (f i), rng m fun i => dInt (g i)⟩, [], [p, q])
    | _, _, _ => none
  | [.agg [.d (.list _ n f _), .own r _ _ m], .agg [.own p _ _ n1, .own q _ _ m1]], H => match H r, H p, H q with
    | .live (.row _ _ h), .live (.row _ _ f1), .live (.row _ _ g1) => some (⟨⟨rng n fun i => dSpan (f i), rng m fun i => dReach (h i)⟩, ⟨rng n1 fun i => dInt (f1 i), rng m1 fun i => dInt (g1 i)⟩⟩, [], [r, p, q]) -- eRowNet
    | _, _, _ => none
  | [.d x, .d (.agg [.list _ n f _, .list _ m g _])], _ => match decNet x with
    | some N => some (⟨N, rng n fun i => dInt (f i), rng m fun i => dInt (g i)⟩, [], [])
    | none => none
  | _, _ => none
def V70 (a : NT) : Prop := fnVC Try.prog (A70 a) Try.f70 (bodyOf Try.f70) (C70.xs a) (heapOf (C70.L a)) (C70.val a) (C70.keep a) [] []
abbrev z70_0 : Prop := 0 = 0
abbrev z70_1 : Prop := ∀ (i : Nat), i < 0 → false = false
abbrev z70_2 (a : NT) : Prop := a.N.r.length = a.N.r.length
abbrev z70_3 (a : NT) : Prop := ∀ (i : Nat), i < a.N.r.length → (gD a.N.r i).fr = (gD a.N.r i).fr ∧ (gD a.N.r i).to = (gD a.N.r i).to ∧ (gD a.N.r i).sp.lo = (gD a.N.r i).sp.lo ∧ (gD a.N.r i).sp.hi = (gD a.N.r i).sp.hi
abbrev z70_4 (a : NT) : Prop := (↑a.N.r.length : Int) = (↑a.N.r.length : Int)
abbrev z70_5 (a : Nat) : Prop := (↑a : Int) = 0
abbrev z70_6 (a : NT) : Prop := a.N.g.length = a.N.g.length
abbrev z70_7 (a : NT) : Prop := ∀ (i : Nat), i < a.N.g.length → (gD a.N.g i).lo = (gD a.N.g i).lo ∧ (gD a.N.g i).hi = (gD a.N.g i).hi
abbrev z70_8 (a : NT) : Prop := a.T.f.length = a.T.f.length
abbrev z70_9 (a : NT) : Prop := ∀ (i : Nat), i < a.T.f.length → gD a.T.f i = gD a.T.f i
abbrev z70_10 (a : NT) : Prop := a.T.t.length = a.T.t.length
abbrev z70_11 (a : NT) : Prop := ∀ (i : Nat), i < a.T.t.length → gD a.T.t i = gD a.T.t i
abbrev z70_12 (a : NT) : Prop := z70_8 a ∧ z70_9 a ∧ z70_10 a ∧ z70_11 a
abbrev z70_13 (a : Nat) (a1 : NT) : Prop := (↑a : Int) < (↑a1.N.r.length : Int)
abbrev z70_14 (a : Nat) (a1 : NT) : Bool := decide (z70_13 a a1)
abbrev z70_15 (a : Nat) : Prop := 0 ≤ (↑a : Int)
abbrev z70_16 (a : Nat) (a1 : NT) : Prop := z70_15 a ∧ z70_13 a a1
abbrev z70_17 (a : Nat) (a1 : NT) : Prop := z70_15 a ∧ (↑a : Int) < (↑a1.T.f.length : Int)
abbrev z70_18 : Prop := 0 < 1
abbrev z70_19 : Prop := 1 = 1
abbrev z70_20 : Prop := 1 ≤ 1 ∧ (z70_18 → z70_19)
abbrev z70_21 : Prop := (True ∧ (0 < 0 → 0 = 1)) ∧ z70_20 ∧ (true = true → z70_18) ∧ 1 ≤ 9223372036854775807 ∧ 8 ≤ 140737488355328
abbrev z70_22 (a : Nat) (a1 : Nat) : Prop := (↑a : Int) = IntKind.i64.wrap ((↑a1 : Int) + 1)
abbrev z70_23 (a : NT) (a1 : Nat) : Int := offM (gD a.T.f a1) (gD a.N.r a1).sp
abbrev z70_24 (a : NT) (a1 : Nat) : Nat := a.N.r.length - a1
abbrev z70_25 (a : NT) : Prop := (↑a.N.g.length : Int) = (↑a.N.g.length : Int)
abbrev z70_26 (a : Nat) (a1 : NT) : Prop := a = 0 ∧ a1.N.r.length = 0
abbrev z70_27 (a : Nat) (a1 : NT) : Prop := (↑a : Int) < (↑a1.N.g.length : Int)
abbrev z70_28 (a : Nat) (a1 : NT) : Bool := decide (z70_27 a a1)
abbrev z70_29 (a : Nat) (a1 : NT) : Prop := z70_15 a ∧ z70_27 a a1
abbrev z70_30 (a : Nat) (a1 : NT) : Prop := z70_15 a ∧ (↑a : Int) < (↑a1.T.t.length : Int)
abbrev z70_31 (a : NT) (a1 : Nat) : Nat := a.N.r.length + a1
abbrev z70_32 (a : NT) (a1 : Nat) : Prop := z70_31 a a1 = 1
abbrev z70_33 (i : Nat) (a : NT) (a1 : Nat) : Prop := i < z70_31 a a1
abbrev z70_34 (a : NT) (a1 : Nat) : Int := offM (gD a.T.t a1) (gD a.N.g a1)
abbrev z70_35 (a : NT) (a1 : Nat) : Nat := a.N.g.length - a1
abbrev z70_36 : List Int := rng 0 fun (i : Nat) => default
abbrev z70_37 : Prop := false = true → z70_18
abbrev z70_38 (a : NT) (a1 : Nat) : Nat := z70_31 a a1 + 1
abbrev z70_39 (a : NT) (a1 : Nat) (a2 : Nat) : Prop := z70_31 a a1 = z70_38 a a2
abbrev z70_40 (a : NT) (a1 : Nat) : List Int := rng (z70_31 a a1) fun (i : Nat) => gD (costL a.N a.T) i
abbrev z70_41 (a : NT) (a1 : Nat) : Nat := (z70_40 a a1).length
abbrev z70_42 (a : NT) : Prop := (∀ (a_1 : Nat), z70_26 a_1 a → bif z70_28 a_1 a then z70_29 a_1 a ∧ (z70_30 a_1 a ∧ z70_21) ∧ ∃ (a_3 : Nat), (z70_0 ∧ z70_32 a a_3 ∧ z70_6 a ∧ z70_7 a ∧ z70_25 a ∧ z70_22 a_3 a_1 ∧ z70_8
 a ∧ z70_9 a ∧ z70_10 a ∧ z70_11 a ∧ z70_32 a a_3 ∧ ∀ (i : Nat), z70_33 i a a_3 → gD (costL a.N a.T) i = z70_34 a a_1) ∧ a_3.le a.N.g.length ∧ z70_35 a a_3 < a.N.g.length else (z70_0 ∧ z70_0 ∧ z70_36.length.succ.le
 4611686018427387904) ∧ costM a.N a.T = sumFrom 0 z70_36) ∧ ∀ (a_1 : Nat), a_1.le a.N.g.length → bif z70_28 a_1 a then z70_29 a_1 a ∧ (z70_30 a_1 a ∧ (z70_31 a a_1 = z70_31 a a_1 ∧ (0 < z70_31 a a_1 → z70_19)) ∧ z70_20 ∧
 z70_37 ∧ z70_38 a a_1 ≤ 9223372036854775807 ∧ z70_38 a a_1 * 8 ≤ 140737488355328) ∧ ∃ (a_3 : Nat), (z70_0 ∧ z70_39 a a_3 a_1 ∧ z70_6 a ∧ z70_7 a ∧ z70_25 a ∧ z70_22 a_3 a_1 ∧ z70_8 a ∧ z70_9 a ∧ z70_10 a ∧ z70_11 a ∧
 z70_39 a a_3 a_1 ∧ ∀ (i : Nat), z70_33 i a a_3 → gD (costL a.N a.T) i = bif decide (z70_33 i a a_1) then gD (costL a.N a.T) i else z70_34 a a_1) ∧ a_3.le a.N.g.length ∧ z70_35 a a_3 < z70_35 a a_1 else (z70_41 a a_1 =
 z70_31 a a_1 ∧ 0 + z70_31 a a_1 ≤ z70_31 a a_1 ∧ (∀ (j : Nat), j < z70_41 a a_1 → gD (z70_40 a a_1) j = gD (costL a.N a.T) (0 + j)) ∧ (z70_41 a a_1).succ.le 4611686018427387904) ∧ costM a.N a.T = sumFrom 0 (z70_40 a a_1)
abbrev z70_43 (a : Nat) : Nat := a + 1
abbrev z70_44 (a : Nat) (a1 : Nat) : Prop := a = z70_43 a1
abbrev z70_45 (a : NT) (a1 : Nat) (a2 : Nat) : Prop := z70_31 a a1 = a2
theorem vc70 (a : NT) : (V70 a) = ((∃ (a_1 : Nat), (z70_0 ∧ z70_1 ∧ z70_2 a ∧ z70_3 a ∧ z70_4 a ∧ z70_5 a_1 ∧ z70_6 a ∧ z70_7 a ∧ z70_2 a ∧ z70_3 a ∧ z70_12 a) ∧ a_1 = 0) ∧ (∀ (a_1 : Nat), a_1 = 0 → bif z70_14 a_1 a then
 z70_16 a_1 a ∧ (z70_17 a_1 a ∧ z70_21) ∧ ∃ (a_3 : Nat), (z70_0 ∧ a_3 = 1 ∧ z70_2 a ∧ z70_3 a ∧ z70_4 a ∧ z70_22 a_3 a_1 ∧ z70_6 a ∧ z70_7 a ∧ z70_2 a ∧ z70_3 a ∧ z70_8 a ∧ z70_9 a ∧ z70_10 a ∧ z70_11 a ∧ a_3 = 1 ∧ ∀ (i :
 Nat), i < a_3 → gD (costL a.N a.T) i = z70_23 a a_1) ∧ a_3.le a.N.r.length ∧ z70_24 a a_3 < a.N.r.length else (∃ (a_3 : Nat), (z70_0 ∧ z70_1 ∧ z70_6 a ∧ z70_7 a ∧ z70_25 a ∧ z70_5 a_3 ∧ z70_12 a) ∧ z70_26 a_3 a) ∧ z70_42
 a) ∧ ∀ (a_1 : Nat), a_1.le a.N.r.length → bif z70_14 a_1 a then z70_16 a_1 a ∧ (z70_17 a_1 a ∧ (a_1 = a_1 ∧ (0 < a_1 → z70_19)) ∧ z70_20 ∧ z70_37 ∧ z70_43 a_1 ≤ 9223372036854775807 ∧ z70_43 a_1 * 8 ≤ 140737488355328) ∧ ∃
 (a_3 : Nat), (z70_0 ∧ z70_44 a_3 a_1 ∧ z70_2 a ∧ z70_3 a ∧ z70_4 a ∧ z70_22 a_3 a_1 ∧ z70_6 a ∧ z70_7 a ∧ z70_2 a ∧ z70_3 a ∧ z70_8 a ∧ z70_9 a ∧ z70_10 a ∧ z70_11 a ∧ z70_44 a_3 a_1 ∧ ∀ (i : Nat), i < a_3 → gD (costL
 a.N a.T) i = bif decide (i < a_1) then gD (costL a.N a.T) i else z70_23 a a_1) ∧ a_3.le a.N.r.length ∧ z70_24 a a_3 < z70_24 a a_1 else (∃ (a_3 : Nat), (z70_0 ∧ z70_45 a a_3 a_1 ∧ z70_6 a ∧ z70_7 a ∧ z70_25 a ∧ z70_5 a_3
 ∧ z70_8 a ∧ z70_9 a ∧ z70_10 a ∧ z70_11 a ∧ z70_45 a a_3 a_1 ∧ ∀ (i : Nat), z70_33 i a a_3 → gD (costL a.N a.T) i = gD (costL a.N a.T) i) ∧ a_3.le a.N.g.length) ∧ z70_42 a) := by kernel_rfl
theorem costL_lo {N : NetL} {T : TruthL} {i : Nat} (h : i < N.r.length) : gD (costL N T) i = offM (gD T.f i) (gD N.r i).sp := by
  unfold costL
  rw [gD_append, if_pos (by simpa using h)]
  exact gD_range (fun i => offM (gD T.f i) (gD N.r i).sp) h
theorem costL_hi {N : NetL} {T : TruthL} {i : Nat} (h : i < N.g.length) : gD (costL N T) (N.r.length + i) = offM (gD T.t i) (gD N.g i) := by
  unfold costL
  rw [gD_append, if_neg (by simp)]
  simp only [List.length_map, List.length_range, Nat.add_sub_cancel_left]
  exact gD_range (fun i => offM (gD T.t i) (gD N.g i)) h
theorem costL_len (N : NetL) (T : TruthL) : (costL N T).length = N.r.length + N.g.length := by simp [costL]
theorem p70 (a : NT) (h1 : 1 ≤ a.N.g.length ∧ a.N.g.length ≤ 1000) (h2 : a.N.r.length ≤ 1000) (h3 : a.T.f.length = a.N.r.length) (h4 : a.T.t.length = a.N.g.length) : V70 a := by
  rw [vc70]; delta z70_0 z70_1 z70_2 z70_3 z70_4 z70_5 z70_6 z70_7 z70_8 z70_9 z70_10 z70_11 z70_12 z70_13 z70_14 z70_15 z70_16 z70_17 z70_18 z70_19 z70_20 z70_21 z70_22 z70_23 z70_24 z70_25 z70_26 z70_27 z70_28 z70_29 z70_30 z70_31 z70_32 z70_33 z70_34 z70_35 z70_36 z70_37 z70_38 z70_39 z70_40 z70_41 z70_42 z70_43 z70_44 z70_45; simp only [condP, eq_self, implies_true, and_self, true_and, and_true, true_implies, forall_const, decide_eq_true_eq, decide_eq_false_iff_not, Int.toNat_natCast, dSpan_eSpan, dReach_eReach, dWay_eWay, dStep_eStep, dFar_eFar, dInt_eInt, Nat.zero_add, Int.zero_sub, Nat.le_eq, Nat.succ_eq_add_one, Nat.add_one_le_iff, Bool.not_eq_true', Bool.not_eq_false', rng_length, dSpan_mk, dReach_mk, dWay_mk, dStep_mk, dFar_mk, rng_getD]
  refine ⟨⟨0, rfl, rfl⟩, ⟨fun k hk => ⟨fun hlt => ?a1, fun hge => ⟨⟨0, rfl, rfl, by omega⟩, ?c1, ?b1⟩⟩, fun k hk => ⟨fun hlt => ?a2, fun hge => ⟨⟨0, by omega, by omega⟩, ?c2, ?b2⟩⟩⟩⟩
  case a1 =>
    subst hk
    refine ⟨⟨by omega, by omega⟩, ⟨⟨by omega, by omega⟩, by decide, by decide, by decide, by decide, by decide⟩, 1, ⟨rfl, rfl, rfl, fun i hi => ?_⟩, by omega, by omega⟩
    have : i = 0 := by omega
    subst this; exact costL_lo (by omega)
  case a2 =>
    refine ⟨⟨by omega, by omega⟩, ⟨⟨by omega, by omega⟩, by decide, by decide, by omega, by omega⟩, k + 1, ⟨rfl, (wsucc (by omega)).symm, rfl, fun i hi => ?_⟩, by omega, by omega⟩
    by_cases hi2 : i < k
    · simp [hi2]
    · have : i = k := by omega
      subst this
      simp only [hi2, decide_false, cond_false]
      exact costL_lo (by omega)
  case c1 | c2 =>
    intro k ⟨hk, h0⟩
    subst hk
    refine ⟨fun hlt => ⟨⟨by omega, by omega⟩, ⟨⟨by omega, by omega⟩, by decide, by decide, by decide, by decide, by decide⟩, 1, ⟨by omega, rfl, by omega, fun i hi => ?_⟩, by omega, by omega⟩, fun hge => by omega⟩
    have : i = 0 := by omega
    subst this
    have := costL_hi (N := a.N) (T := a.T) (i := 0) (by omega)
    rw [h0] at this; exact this
  case b1 | b2 =>
    intro k hk
    refine ⟨fun hlt => ⟨⟨by omega, by omega⟩, ⟨⟨by omega, by omega⟩, by decide, by decide, by omega, by omega⟩, k + 1, ⟨by omega, (wsucc (by omega)).symm, by omega, fun i hi => ?_⟩, by omega, by omega⟩, fun hge => ?_⟩
    · by_cases hi2 : i < a.N.r.length + k
      · simp [hi2]
      · have : i = a.N.r.length + k := by omega
        subst this
        simp only [hi2, decide_false, cond_false]
        exact costL_hi (by omega)
    · have hk : k = a.N.g.length := by omega
      subst hk
      have e : rng (a.N.r.length + a.N.g.length) (fun i => gD (costL a.N a.T) i) = costL a.N a.T := by rw [← costL_len a.N a.T]; exact rng_getD _
      rw [e]
      exact ⟨⟨Nat.le_refl _, fun _ _ => rfl, by omega⟩, rfl⟩
theorem ok70 : SpecOk Try.prog 70 (C70.spec d70) := okC C70 A70 [] [] Try.func70 (fun _ => by kernel_rfl) (fun _ => gok_cons ok98 (gok_cons ok99 gok_nil)) (fun a h => p70 a h.1 h.2.1 h.2.2.1 h.2.2.2) (fun _ => noI rfl rfl) _
end Go.Bal
