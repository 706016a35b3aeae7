/- Package balance: Suspects. -/
import Derived.Test.YtonddbmhljelgaaBalQ
set_option linter.unusedVariables false
set_option linter.unusedSimpArgs false
namespace Go.Bal
open Go Go.Sym Go.Proofs
def A69 : Ann := { ann 8 [] with mt := fun id => id == 3 }
def C69 : Ctr := { α := List Reach, xs := fun l => [.d (eReachesL l)], L := fun _ => [], val := fun l => .own 0 4 0 l.length, keep := fun l => [(0, .live (.row 4 l.length fun i => eReach (gD l i)))], pre := fun l => [0 < l.length ∧ l.length ≤ 1000] }
def d69 : List AVal → Heap → Option (List Reach × List (Nat × Nat) × List Nat)
  | [.d (.list _ n g _)], _ => some (rng n fun i => dReach (g i), [], [])
  | _, _ => none
def V69 (l : List Reach) : Prop := fnVC Try.prog A69 Try.f69 (bodyOf Try.f69) (C69.xs l) (heapOf []) (C69.val l) (C69.keep l) [(0, 4032)] []
theorem vc69 (l : List Reach) : (V69 l) = ((Nat.succ 0).le l.length ∧ ((0 = 0 ∧ (0 < 0 → 4 = 4)) ∧ (True ∧ (0 < l.length → 4 = 4)) ∧ (false = true → 0 < l.length) ∧ 0 + l.length ≤ 9223372036854775807 ∧ (0 + l.length) *
 32 ≤ 140737488355328) ∧ 0 = 0 ∧ l.length = 0 + l.length ∧ l.length = 0 + l.length ∧ ∀ (i : Nat), i < l.length → (gD l i).fr = (gD l (i - 0)).fr ∧ (gD l i).to = (gD l (i - 0)).to ∧ (gD l i).sp.lo = (gD l (i - 0)).sp.lo ∧
 (gD l i).sp.hi = (gD l (i - 0)).sp.hi) := by kernel_rfl
theorem p69 (l : List Reach) (h : 0 < l.length ∧ l.length ≤ 1000) : V69 l := by
  rw [vc69]; simp only [condP, eq_self, implies_true, and_self, true_and, and_true, true_implies, forall_const, decide_eq_true_eq, decide_eq_false_iff_not, Int.toNat_natCast, dSpan_eSpan, dReach_eReach, dWay_eWay, dStep_eStep, dFar_eFar, dInt_eInt, Nat.zero_add, Int.zero_sub, Nat.le_eq, Nat.succ_eq_add_one, Nat.add_one_le_iff, Bool.not_eq_true', Bool.not_eq_false', rng_length, dSpan_mk, dReach_mk, dWay_mk, dStep_mk, dFar_mk, rng_getD]
  exact ⟨h.1, ⟨fun _ => h.1, by omega, by omega⟩, fun _ _ => ⟨rfl, rfl, rfl, rfl⟩⟩
theorem ok69 : SpecOk Try.prog 69 (C69.spec d69) := okC C69 (fun _ => A69) [(0, 4032)] [] Try.func69 (fun _ => by kernel_rfl) (fun _ => gok_nil) (fun a h => p69 a h) (fun _ => noI rfl rfl) _
def wide : Span := ⟨-100000000, 100000000⟩
def suspD (N : NetL) (i : Nat) : Desk := ⟨(begunM N).all.modify i fun w => { w with sp := wide }, (begunM N).out, (begunM N).nR⟩
def suspN (N : NetL) (i : Nat) : NetL := ⟨N.g, N.r.modify i fun r => { r with sp := wide }⟩
def suspF (N : NetL) (i : Nat) : Desk := (settleV (suspD N i)).getD default
def suspB (N : NetL) (i : Nat) : Bool := decide (costM (suspN N i) (truthM (suspF N i)) = 0)
def suspK (N : NetL) (k : Nat) : List Int := ((List.range k).filter fun i => suspB N i).map fun (i : Nat) => (i : Int)
def suC (N : NetL) (k : Nat) : List (Nat × HCell) := [(200, begO N), (301, .live (deskB (suspD N k) 302)), (302, .live (deskR (suspD N k)))]
def suS (N : NetL) (k : Nat) (v : AVal) : List (Nat × AVal) := [(1, .bptr 200 0), (6, v), (7, .int k), (8, .bptr 301 0), (24, .int N.r.length), (25, .int k)]
def A25 (N : NetL) : Ann := { ann 72 [(19, C19.spec d67), (67, C67.spec d67), (68, C68.spec dDesk), (56, C56.spec dDesk), (69, C69.spec d69), (70, C70.spec d70)] with mt := fun id => id == 18, cutIn := fun gs id => if id = 12 then some [{ α := Nat, dflt := 0, T := fun k => ⟨suS N k (.d nilL), suC N k⟩, inv := fun k => k < N.r.length ∧ suspK N k = [] ∧ N.r.length - k = gs.headD 0, meas := fun _ => 0, first := [(301, 11016), (302, 11017)] }, { α := Nat, dflt := 0, T := fun k => ⟨suS N k (.own 202 1 0 (suspK N k).length), suC N k ++ [(202, rowL (suspK N k).length (suspK N k))]⟩, inv := fun k => k < N.r.length ∧ N.r.length - k = gs.headD 0, meas := fun _ => 0, first := [(301, 11016), (302, 11017)] }] else none, loops := fun id => if id = 8 then some [{ α := Nat, dflt := 0, T := fun k => ⟨[(1, .bptr 200 0), (6, .d nilL), (24, .int N.r.length), (25, .int k)], [(200, begO N)]⟩, inv := fun k => k ≤ N.r.length ∧ suspK N k = [], meas := fun k => N.r.length - k, first := [(200, 1000)] }, { α := Nat, dflt := 0, T := fun k => ⟨[(1, .bptr 200 0), (6, .own 202 1 0 (suspK N k).length), (24, .int N.r.length), (25, .int k)], [(200, begO N), (202, rowL (suspK N k).length (suspK N k))]⟩, inv := fun k => k ≤ N.r.length, meas := fun k => N.r.length - k, again := [(202, 19048)] }, { α := Nat, dflt := 0, T := fun k => ⟨[(1, .bptr 200 0), (6, .own 202 1 0 (suspK N k).length), (24, .int N.r.length), (25, .int k)], [(200, begO N), (202, rowL (suspK N k).length (suspK N k))]⟩, inv := fun k => k ≤ N.r.length, meas := fun k => N.r.length - k}] else none }
def C25 : Ctr := { α := NetL, xs := fun N => [.d (eNetL N)], L := fun _ => [], val := fun N => .tup [.d (eIntsL (suspK N N.r.length)), .int 0], keep := fun _ => [], pre := fun N => [checkL N = 0, (settledV N).isSome = true, setC N ≠ 0, ∀ i, i < N.r.length → (settleV (suspD N i)).isSome = true] }
def V25 (N : NetL) : Prop := fnVC Try.prog (A25 N) Try.f25 (bodyOf Try.f25) (C25.xs N) (heapOf []) (C25.val N) (C25.keep N) [] [202]
abbrev z25_0 (N : NetL) : List Span := rng N.g.length fun (i : Nat) => gD N.g i
abbrev z25_1 (N : NetL) : Nat := (z25_0 N).length
abbrev z25_2 (N : NetL) : Prop := z25_1 N = N.g.length
abbrev z25_3 (N : NetL) (i : Nat) : Span := gD (z25_0 N) i
abbrev z25_4 (N : NetL) : Prop := ∀ (i : Nat), i < z25_1 N → (z25_3 N i).lo = (gD N.g i).lo ∧ (z25_3 N i).hi = (gD N.g i).hi
abbrev z25_5 (N : NetL) : List Reach := rng N.r.length fun (i : Nat) => gD N.r i
abbrev z25_6 (N : NetL) : Nat := (z25_5 N).length
abbrev z25_7 (N : NetL) : Prop := z25_6 N = N.r.length
abbrev z25_8 (N : NetL) (i : Nat) : Reach := gD (z25_5 N) i
abbrev z25_9 (N : NetL) (i : Nat) : Int := (z25_8 N i).fr
abbrev z25_10 (N : NetL) (i : Nat) : Int := (z25_8 N i).to
abbrev z25_11 (N : NetL) (i : Nat) : Span := (z25_8 N i).sp
abbrev z25_12 (N : NetL) (i : Nat) : Int := (z25_11 N i).lo
abbrev z25_13 (N : NetL) (i : Nat) : Int := (z25_11 N i).hi
abbrev z25_14 (N : NetL) : Prop := ∀ (i : Nat), i < z25_6 N → z25_9 N i = (gD N.r i).fr ∧ z25_10 N i = (gD N.r i).to ∧ z25_12 N i = (gD N.r i).sp.lo ∧ z25_13 N i = (gD N.r i).sp.hi
abbrev z25_15 (N : NetL) : NetL := NetL.mk (z25_0 N) (z25_5 N)
abbrev z25_16 (N : NetL) : Prop := (suspK N N.r.length).length = (0 : Nat)
abbrev z25_17 : Prop := (0 : Nat) = (0 : Nat)
abbrev z25_18 : Prop := ∀ (i : Nat), i < (0 : Nat) → false = false
abbrev z25_19 (N : NetL) : Prop := (↑N.r.length : Int) = (↑N.r.length : Int)
abbrev z25_20 (N : NetL) : Prop := N.g.length = N.g.length
abbrev z25_21 (N : NetL) : Prop := ∀ (i : Nat), i < N.g.length → (gD N.g i).lo = (gD N.g i).lo ∧ (gD N.g i).hi = (gD N.g i).hi
abbrev z25_22 (N : NetL) : Prop := N.r.length = N.r.length
abbrev z25_23 (N : NetL) : Prop := ∀ (i : Nat), i < N.r.length → (gD N.r i).fr = (gD N.r i).fr ∧ (gD N.r i).to = (gD N.r i).to ∧ (gD N.r i).sp.lo = (gD N.r i).sp.lo ∧ (gD N.r i).sp.hi = (gD N.r i).sp.hi
abbrev z25_24 (N : NetL) : Prop := z25_20 N ∧ z25_21 N ∧ z25_22 N ∧ z25_23 N
abbrev z25_25 (a : Nat) (N : NetL) : Prop := a ≤ N.r.length ∧ suspK N a = []
abbrev z25_26 (a : Nat) (N : NetL) : Bool := decide ((↑a : Int) < (↑N.r.length : Int))
abbrev z25_27 (N : NetL) : Prop := (1 : Nat) ≤ z25_1 N ∧ z25_1 N ≤ (1000 : Nat)
abbrev z25_28 (N : NetL) : Prop := z25_2 N ∧ z25_4 N ∧ z25_7 N ∧ z25_14 N ∧ z25_27 N ∧ (z25_6 N).le (1000 : Nat)
abbrev z25_29 (a : Nat) : Prop := (0 : Int) ≤ (↑a : Int)
abbrev z25_30 (N : NetL) : Desk := begunM (z25_15 N)
abbrev z25_31 (N : NetL) : List Way := (z25_30 N).all
abbrev z25_32 (N : NetL) : Nat := (z25_31 N).length
abbrev z25_33 (a : Nat) : Nat := (0 : Nat) + a
abbrev z25_34 (a : Nat) : Nat := (z25_33 a).succ
abbrev z25_35 (a : Nat) (N : NetL) : Prop := (z25_29 a ∧ (↑a : Int) < (↑(z25_32 N) : Int)) ∧ (z25_34 a).le (z25_32 N)
abbrev z25_36 (a : Nat) (a1 : Nat) : Prop := (↑a : Int) = (↑a1 : Int)
abbrev z25_37 (N : NetL) (a : Nat) : Prop := (suspD N a).all.length = z25_32 N
abbrev z25_38 (N : NetL) (a : Nat) : Prop := (↑(suspD N a).out : Int) = (↑(z25_30 N).out : Int)
abbrev z25_39 (N : NetL) (a : Nat) : Prop := (↑(suspD N a).nR : Int) = (↑(z25_30 N).nR : Int)
abbrev z25_40 (i : Nat) (a : Nat) : Prop := i = z25_33 a
abbrev z25_41 (i : Nat) (a : Nat) : Bool := decide (z25_40 i a)
abbrev z25_42 (N : NetL) (a : Nat) : Way := gD (z25_31 N) (z25_33 a)
abbrev z25_43 (N : NetL) (i : Nat) : Way := gD (z25_31 N) i
abbrev z25_44 (N : NetL) (a : Nat) (i : Nat) : Int := (gD (suspD N a).all i).sp.lo
abbrev z25_45 (N : NetL) (i : Nat) : Span := (z25_43 N i).sp
abbrev z25_46 (N : NetL) (a : Nat) (i : Nat) : Int := (gD (suspD N a).all i).sp.hi
abbrev z25_47 (N : NetL) (a : Nat) (a1 : Nat) : Prop := ∀ (i : Nat), i < (suspD N a).all.length → ((gD (suspD N a).all i).fr = bif z25_41 i a1 then (z25_42 N a1).fr else (z25_43 N i).fr) ∧ ((gD (suspD N a).all i).to =
 bif z25_41 i a1 then (z25_42 N a1).to else (z25_43 N i).to) ∧ (z25_44 N a i = bif z25_41 i a1 then (-100000000 : Int) else (z25_45 N i).lo) ∧ (z25_46 N a i = bif z25_41 i a1 then (100000000 : Int) else (z25_45 N i).hi) ∧
 (gD (suspD N a).all i).now = bif z25_41 i a1 then (z25_42 N a1).now else (z25_43 N i).now
abbrev z25_48 (N : NetL) (a : Nat) : Nat := N.r.length - a
abbrev z25_49 (N : NetL) (a : Nat) (a1 : Nat) : Prop := z25_48 N a = [z25_48 N a1].headD (0 : Nat)
abbrev z25_50 (a : Nat) (N : NetL) (a1 : Nat) : Prop := a < N.r.length ∧ suspK N a = [] ∧ z25_49 N a a1
abbrev z25_51 (N : NetL) (a : Nat) : List Way := rng (suspD N a).all.length fun (i : Nat) => gD (suspD N a).all i
abbrev z25_52 (N : NetL) (a : Nat) : Nat := (z25_51 N a).length
abbrev z25_53 (N : NetL) (a : Nat) : Prop := z25_52 N a = (suspD N a).all.length
abbrev z25_54 (N : NetL) (a : Nat) (i : Nat) : Way := gD (z25_51 N a) i
abbrev z25_55 (N : NetL) (a : Nat) (i : Nat) : Span := (z25_54 N a i).sp
abbrev z25_56 (N : NetL) (a : Nat) : Desk := Desk.mk (z25_51 N a) (suspD N a).out (suspD N a).nR
abbrev z25_57 (N : NetL) (a : Nat) : Option Desk := settleV (z25_56 N a)
abbrev z25_58 (N : NetL) (a : Nat) : Prop := z25_17 ∧ z25_53 N a ∧ (↑(suspD N a).out : Int) = (↑(suspD N a).out : Int) ∧ (↑(suspD N a).nR : Int) = (↑(suspD N a).nR : Int) ∧ z25_53 N a ∧ (∀ (i : Nat), i < z25_52 N a →
 (z25_54 N a i).fr = (gD (suspD N a).all i).fr ∧ (z25_54 N a i).to = (gD (suspD N a).all i).to ∧ (z25_55 N a i).lo = z25_44 N a i ∧ (z25_55 N a i).hi = z25_46 N a i ∧ (z25_54 N a i).now = (gD (suspD N a).all i).now) ∧
 (z25_56 N a).ok ∧ (z25_57 N a).isSome = true
abbrev z25_59 (N : NetL) (a : Nat) : Desk := (z25_57 N a).getD default
abbrev z25_60 (N : NetL) (a : Nat) : List Way := (z25_59 N a).all
abbrev z25_61 (N : NetL) (a : Nat) : Nat := (z25_60 N a).length
abbrev z25_62 (N : NetL) (a : Nat) (i : Nat) : Way := gD (z25_60 N a) i
abbrev z25_63 (N : NetL) (a : Nat) : List Way := rng (z25_61 N a) fun (i : Nat) => z25_62 N a i
abbrev z25_64 (N : NetL) (a : Nat) : Nat := (z25_63 N a).length
abbrev z25_65 (N : NetL) (a : Nat) : Prop := z25_64 N a = z25_61 N a
abbrev z25_66 (N : NetL) (a : Nat) : Nat := (z25_59 N a).out
abbrev z25_67 (N : NetL) (a : Nat) : Prop := (↑(z25_66 N a) : Int) = (↑(z25_66 N a) : Int)
abbrev z25_68 (N : NetL) (a : Nat) : Nat := (z25_59 N a).nR
abbrev z25_69 (N : NetL) (a : Nat) : Prop := (↑(z25_68 N a) : Int) = (↑(z25_68 N a) : Int)
abbrev z25_70 (N : NetL) (a : Nat) (i : Nat) : Way := gD (z25_63 N a) i
abbrev z25_71 (N : NetL) (a : Nat) (i : Nat) : Int := (z25_70 N a i).fr
abbrev z25_72 (N : NetL) (a : Nat) (i : Nat) : Int := (z25_62 N a i).fr
abbrev z25_73 (N : NetL) (a : Nat) (i : Nat) : Int := (z25_70 N a i).to
abbrev z25_74 (N : NetL) (a : Nat) (i : Nat) : Int := (z25_62 N a i).to
abbrev z25_75 (N : NetL) (a : Nat) (i : Nat) : Span := (z25_70 N a i).sp
abbrev z25_76 (N : NetL) (a : Nat) (i : Nat) : Int := (z25_75 N a i).lo
abbrev z25_77 (N : NetL) (a : Nat) (i : Nat) : Span := (z25_62 N a i).sp
abbrev z25_78 (N : NetL) (a : Nat) (i : Nat) : Int := (z25_77 N a i).lo
abbrev z25_79 (N : NetL) (a : Nat) (i : Nat) : Int := (z25_75 N a i).hi
abbrev z25_80 (N : NetL) (a : Nat) (i : Nat) : Int := (z25_77 N a i).hi
abbrev z25_81 (N : NetL) (a : Nat) (i : Nat) : Int := (z25_70 N a i).now
abbrev z25_82 (N : NetL) (a : Nat) (i : Nat) : Int := (z25_62 N a i).now
abbrev z25_83 (N : NetL) (a : Nat) : Prop := z25_61 N a = z25_64 N a
abbrev z25_84 (N : NetL) (a : Nat) : Prop := z25_17 ∧ z25_65 N a ∧ z25_67 N a ∧ z25_69 N a ∧ z25_65 N a ∧ (∀ (i : Nat), i < z25_64 N a → z25_71 N a i = z25_72 N a i ∧ z25_73 N a i = z25_74 N a i ∧ z25_76 N a i = z25_78 N
 a i ∧ z25_79 N a i = z25_80 N a i ∧ z25_81 N a i = z25_82 N a i) ∧ z25_17 ∧ z25_83 N a ∧ z25_67 N a ∧ z25_69 N a ∧ z25_83 N a ∧ (∀ (i : Nat), i < z25_61 N a → z25_72 N a i = z25_71 N a i ∧ z25_74 N a i = z25_73 N a i ∧
 z25_78 N a i = z25_76 N a i ∧ z25_80 N a i = z25_79 N a i ∧ z25_82 N a i = z25_81 N a i) ∧ ((1 : Nat) ≤ z25_66 N a ∧ z25_64 N a ≤ (1000 : Nat)) ∧ (z25_68 N a + z25_66 N a).le (z25_64 N a)
abbrev z25_85 (N : NetL) : Prop := z25_7 N ∧ z25_14 N ∧ (0 : Nat) < z25_6 N ∧ z25_6 N ≤ (1000 : Nat)
abbrev z25_86 (a : Nat) (N : NetL) : Prop := (z25_29 a ∧ (↑a : Int) < (↑(z25_61 N a) : Int)) ∧ z25_33 a < z25_61 N a ∧ (z25_29 a ∧ (↑a : Int) < (↑(z25_6 N) : Int)) ∧ (z25_34 a).le (z25_6 N)
abbrev z25_87 (N : NetL) (a : Nat) : Reach := gD (z25_5 N) (z25_33 a)
abbrev z25_88 (N : NetL) (a : Nat) : Int := (z25_87 N a).fr
abbrev z25_89 (N : NetL) (a : Nat) : Int := (z25_87 N a).to
abbrev z25_90 (N : NetL) (a : Nat) : Span := (gD (z25_60 N a) (z25_33 a)).sp
abbrev z25_91 (N : NetL) (a : Nat) : Int := (z25_90 N a).lo
abbrev z25_92 (N : NetL) (a : Nat) : Int := (z25_90 N a).hi
abbrev z25_93 (N : NetL) (a : Nat) : List Reach := rng (z25_6 N) fun (i : Nat) => Reach.mk (bif z25_41 i a then z25_88 N a else z25_9 N i) (bif z25_41 i a then z25_89 N a else z25_10 N i) (Span.mk (bif z25_41 i a then
 z25_91 N a else z25_12 N i) (bif z25_41 i a then z25_92 N a else z25_13 N i))
abbrev z25_94 (N : NetL) (a : Nat) : Nat := (z25_93 N a).length
abbrev z25_95 (i : Nat) (a : Nat) : Bool := decide (z25_40 i a)
abbrev z25_96 (N : NetL) (a : Nat) : Nat := (rng (z25_6 N) fun (i : Nat) => Reach.mk (bif z25_95 i a then z25_88 N a else z25_9 N i) (bif z25_95 i a then z25_89 N a else z25_10 N i) (Span.mk (bif z25_95 i a then z25_91 N
 a else z25_12 N i) (bif z25_95 i a then z25_92 N a else z25_13 N i))).length
abbrev z25_97 (N : NetL) (a : Nat) (j : Nat) : Reach := gD (z25_93 N a) j
abbrev z25_98 (j : Nat) (a : Nat) : Bool := decide (z25_33 j = z25_33 a)
abbrev z25_99 (N : NetL) (a : Nat) (j : Nat) : Span := (z25_97 N a j).sp
abbrev z25_100 (N : NetL) (j : Nat) : Span := (z25_87 N j).sp
abbrev z25_101 (N : NetL) (a : Nat) : TruthL := truthM (Desk.mk (z25_63 N a) (z25_66 N a) (z25_68 N a))
abbrev z25_102 (N : NetL) (a : Nat) : List Int := (z25_101 N a).f
abbrev z25_103 (N : NetL) (a : Nat) : List Int := rng (z25_68 N a) fun (i : Nat) => gD (z25_102 N a) i
abbrev z25_104 (N : NetL) (a : Nat) : Nat := (z25_103 N a).length
abbrev z25_105 (N : NetL) (a : Nat) : List Int := (z25_101 N a).t
abbrev z25_106 (N : NetL) (a : Nat) : List Int := rng (z25_66 N a) fun (i : Nat) => gD (z25_105 N a) i
abbrev z25_107 (N : NetL) (a : Nat) : Nat := (z25_106 N a).length
abbrev z25_108 (N : NetL) (a : Nat) : Prop := z25_2 N ∧ z25_4 N ∧ z25_94 N a = z25_6 N ∧ (0 : Nat) + z25_6 N ≤ z25_6 N ∧ (∀ (j : Nat), j < z25_96 N a → ((z25_97 N a j).fr = bif z25_98 j a then z25_88 N a else z25_88 N j)
 ∧ ((z25_97 N a j).to = bif z25_98 j a then z25_89 N a else z25_89 N j) ∧ ((z25_99 N a j).lo = bif z25_98 j a then z25_91 N a else (z25_100 N j).lo) ∧ (z25_99 N a j).hi = bif z25_98 j a then z25_92 N a else (z25_100 N
 j).hi) ∧ z25_104 N a = z25_68 N a ∧ (0 : Nat) + z25_68 N a ≤ z25_68 N a ∧ (∀ (j : Nat), j < z25_104 N a → gD (z25_103 N a) j = gD (z25_102 N a) (z25_33 j)) ∧ z25_107 N a = z25_66 N a ∧ (0 : Nat) + z25_66 N a ≤ z25_66 N a
 ∧ (∀ (j : Nat), j < z25_107 N a → gD (z25_106 N a) j = gD (z25_105 N a) (z25_33 j)) ∧ z25_27 N ∧ z25_96 N a ≤ (1000 : Nat) ∧ z25_104 N a = z25_94 N a ∧ z25_107 N a = z25_1 N
abbrev z25_109 (N : NetL) (a : Nat) : Bool := costM (NetL.mk (z25_0 N) (z25_93 N a)) (TruthL.mk (z25_103 N a) (z25_106 N a)) == (0 : Int)
abbrev z25_110 : Prop := (0 : Nat) < (1 : Nat)
abbrev z25_111 : Prop := (1 : Nat) = (1 : Nat)
abbrev z25_112 : Prop := (1 : Nat) ≤ (1 : Nat) ∧ (z25_110 → z25_111)
abbrev z25_113 (N : NetL) (a : Nat) : Prop := (suspK N a).length = (1 : Nat)
abbrev z25_114 (a : Nat) (a1 : Nat) : Prop := (↑a : Int) = IntKind.i64.wrap ((↑a1 : Int) + (1 : Int))
abbrev z25_115 (N : NetL) (a : Nat) (a1 : Nat) : Prop := z25_48 N a < z25_48 N a1
abbrev z25_116 (a : Nat) (N : NetL) (a1 : Nat) : Prop := a.le N.r.length ∧ z25_115 N a a1
abbrev z25_117 (a : Nat) (N : NetL) (a1 : Nat) : Prop := a < N.r.length ∧ z25_49 N a a1
abbrev z25_118 (N : NetL) (a : Nat) : Nat := (suspK N a).length + (1 : Nat)
abbrev z25_119 (N : NetL) (a : Nat) (a1 : Nat) : Prop := (suspK N a).length = z25_118 N a1
abbrev z25_120 (N : NetL) (a : Nat) (a1 : Nat) : Prop := (suspK N a).length = (suspK N a1).length
abbrev z25_121 (N : NetL) (a : Nat) (a1 : Nat) : Prop := z25_120 N a a1 ∧ ∀ (i : Nat), i < (suspK N a).length → gD (suspK N a) i = gD (suspK N a1) i
abbrev z25_122 (N : NetL) (a : Nat) : Prop := (∀ (a_1 : Nat), z25_50 a_1 N a → z25_58 N a_1 ∧ z25_84 N a_1 ∧ z25_85 N ∧ z25_86 a_1 N ∧ z25_108 N a_1 ∧ bif z25_109 N a_1 then ((True ∧ ((0 : Nat) < (0 : Nat) → (0 : Nat) =
 (1 : Nat))) ∧ z25_112 ∧ (true = true → z25_110) ∧ (1 : Nat) ≤ (9223372036854775807 : Nat) ∧ (8 : Nat) ≤ (140737488355328 : Nat)) ∧ ∃ (a_3 : Nat), (z25_17 ∧ z25_113 N a_3 ∧ z25_19 N ∧ z25_114 a_3 a_1 ∧ z25_20 N ∧ z25_21 N
 ∧ z25_22 N ∧ z25_23 N ∧ z25_113 N a_3 ∧ ∀ (i : Nat), i < (suspK N a_3).length → gD (suspK N a_3) i = (↑a_1 : Int)) ∧ z25_116 a_3 N a else ∃ (a_3 : Nat), (z25_17 ∧ z25_18 ∧ z25_19 N ∧ z25_114 a_3 a_1 ∧ z25_24 N) ∧ z25_25
 a_3 N ∧ z25_115 N a_3 a) ∧ ∀ (a_1 : Nat), z25_117 a_1 N a → z25_58 N a_1 ∧ z25_84 N a_1 ∧ z25_85 N ∧ z25_86 a_1 N ∧ z25_108 N a_1 ∧ bif z25_109 N a_1 then (((suspK N a_1).length = (suspK N a_1).length ∧ ((0 : Nat) <
 (suspK N a_1).length → z25_111)) ∧ z25_112 ∧ (false = true → z25_110) ∧ z25_118 N a_1 ≤ (9223372036854775807 : Nat) ∧ z25_118 N a_1 * (8 : Nat) ≤ (140737488355328 : Nat)) ∧ ∃ (a_3 : Nat), (z25_17 ∧ z25_119 N a_3 a_1 ∧
 z25_19 N ∧ z25_114 a_3 a_1 ∧ z25_20 N ∧ z25_21 N ∧ z25_22 N ∧ z25_23 N ∧ z25_119 N a_3 a_1 ∧ ∀ (i : Nat), i < (suspK N a_3).length → gD (suspK N a_3) i = bif decide (i < (suspK N a_1).length) then gD (suspK N a_1) i else
 (↑a_1 : Int)) ∧ z25_116 a_3 N a else ∃ (a_3 : Nat), (z25_17 ∧ z25_120 N a_3 a_1 ∧ z25_19 N ∧ z25_114 a_3 a_1 ∧ z25_20 N ∧ z25_21 N ∧ z25_22 N ∧ z25_23 N ∧ z25_121 N a_3 a_1) ∧ z25_116 a_3 N a
abbrev z25_123 : Prop := Int.ofNat (0 : Nat) = Int.ofNat (0 : Nat)
abbrev z25_124 (N : NetL) : Prop := ∀ (a : Nat), a.le N.r.length → bif z25_26 a N then z25_28 N ∧ (z25_35 a N ∧ ∃ (a_2 : Nat), (z25_17 ∧ z25_120 N a_2 a ∧ z25_36 a_2 a ∧ z25_19 N ∧ z25_36 a_2 a ∧ z25_20 N ∧ z25_21 N ∧
 z25_22 N ∧ z25_23 N ∧ z25_17 ∧ z25_37 N a_2 ∧ z25_38 N a_2 ∧ z25_39 N a_2 ∧ z25_37 N a_2 ∧ z25_47 N a_2 a ∧ z25_121 N a_2 a) ∧ z25_117 a_2 N a) ∧ z25_122 N a else (suspK N N.r.length).length = (suspK N a).length ∧ (0 :
 Nat) + (suspK N a).length ≤ (suspK N a).length ∧ (∀ (j : Nat), j < (suspK N N.r.length).length → gD (suspK N N.r.length) j = gD (suspK N a) (z25_33 j)) ∧ z25_123
theorem vc25 (N : NetL) : (V25 N) = ((z25_2 N ∧ z25_4 N ∧ z25_7 N ∧ z25_14 N ∧ checkL (z25_15 N) = (0 : Int) ∧ (settledV (z25_15 N)).isSome = true) ∧ bif decide (setC (z25_15 N) = (0 : Int)) then z25_16 N ∧ z25_16 N ∧
 Int.ofNat (0 : Nat) = Int.ofNat (8 : Nat) else (∃ (a : Nat), (z25_17 ∧ z25_18 ∧ z25_19 N ∧ (↑a : Int) = (0 : Int) ∧ z25_24 N) ∧ z25_25 a N) ∧ (∀ (a : Nat), z25_25 a N → bif z25_26 a N then z25_28 N ∧ (z25_35 a N ∧ ∃ (a_2
 : Nat), (z25_17 ∧ z25_18 ∧ z25_36 a_2 a ∧ z25_19 N ∧ z25_36 a_2 a ∧ z25_20 N ∧ z25_21 N ∧ z25_22 N ∧ z25_23 N ∧ z25_17 ∧ z25_37 N a_2 ∧ z25_38 N a_2 ∧ z25_39 N a_2 ∧ z25_37 N a_2 ∧ z25_47 N a_2 a) ∧ z25_50 a_2 N a) ∧
 z25_122 N a else z25_16 N ∧ z25_16 N ∧ z25_123) ∧ z25_124 N ∧ z25_124 N) := by kernel_rfl
theorem movedM_ends {d d' : Desk} {fr to most q : Int} {m : Map} (h : movedM d fr to m most = some (d', q)) (i : Nat) : (gD d'.all i).fr = (gD d.all i).fr ∧ (gD d'.all i).to = (gD d.all i).to ∧ (gD d'.all i).sp = (gD d.all i).sp := by
  unfold movedM at h
  split at h
  · cases h
  · split at h
    · cases h; exact pushAll_ends _ _ _ _
    · cases h
theorem settleM_ends : ∀ {k : Nat} {d d' : Desk}, settleM k d = some d' → ∀ i, (gD d'.all i).fr = (gD d.all i).fr ∧ (gD d'.all i).to = (gD d.all i).to ∧ (gD d'.all i).sp = (gD d.all i).sp
  | 0, _, _, h => by cases h
  | k + 1, d, d', h => fun i => by
    simp only [settleM] at h
    split at h
    · cases h; exact ⟨rfl, rfl, rfl⟩
    · split at h
      · cases h
      · rename_i d1 hd1
        obtain ⟨a1, a2, a3⟩ := settleM_ends h i
        unfold settleStep at hd1
        simp only at hd1
        split at hd1
        · cases hd1
        split at hd1
        · cases hd1
        split at hd1
        · cases hd1
        rename_i hm
        cases hd1
        obtain ⟨b1, b2, b3⟩ := movedM_ends hm i
        exact ⟨a1.trans b1, a2.trans b2, a3.trans b3⟩
theorem suspK_succ (N : NetL) (k : Nat) : suspK N (k + 1) = if suspB N k then suspK N k ++ [(k : Int)] else suspK N k := by
  unfold suspK
  rw [List.range_succ, List.filter_append, List.map_append]
  by_cases h : suspB N k = true
  · simp [h]
  · simp [h]
theorem susp_fold (N : NetL) (k : Nat) : (settleV (suspD N k)).getD default = suspF N k := rfl
theorem susp_r {N : NetL} {k : Nat} (hk : k < N.r.length) {w : Way} (hw : w.sp = wide) : rng N.r.length (fun i => (⟨bif decide (i = k) then (gD N.r k).fr else (gD N.r i).fr, bif decide (i = k) then (gD N.r k).to else (gD N.r i).to, ⟨bif decide (i = k) then w.sp.lo else (gD N.r i).sp.lo, bif decide (i = k) then w.sp.hi else (gD N.r i).sp.hi⟩⟩ : Reach)) = (suspN N k).r := by
  apply gD_ext
  · simp [suspN]
  · intro i hi
    simp only [rng_length] at hi
    rw [rng_get _ _ _ hi]
    show _ = gD (N.r.modify k fun r => { r with sp := wide }) i
    rw [gD_modify hk]
    by_cases he : i = k
    · subst he; simp [hw]
    · simp only [he, decide_false, cond_false, if_false]
theorem suspD_len (N : NetL) (k : Nat) : (suspD N k).all.length = N.r.length + N.g.length := by
  show ((begunM N).all.modify k _).length = _
  rw [List.length_modify, begunM_len]
theorem suspD_gD {N : NetL} {k : Nat} (hk : k < N.r.length + N.g.length) (i : Nat) : gD (suspD N k).all i = if i = k then { (gD (begunM N).all k) with sp := wide } else gD (begunM N).all i := by
  show gD ((begunM N).all.modify k _) i = _
  rw [gD_modify (by rw [begunM_len]; exact hk)]
theorem suspD_ok {N : NetL} (h : Good N) {k : Nat} (hk : k < N.r.length) : (suspD N k).ok := by
  have hb := begun_ok h
  refine ⟨hb.out, by rw [suspD_len, ← begunM_len]; exact hb.len, by rw [suspD_len, ← begunM_len]; exact hb.cut, fun i hi => ?_⟩
  rw [suspD_len] at hi
  have := hb.ends i (by rw [begunM_len]; exact hi)
  rw [suspD_gD (by omega)]
  split
  · rename_i he; subst he; exact this
  · exact this
theorem p25 (N : NetL) (h1 : checkL N = 0) (h2 : (settledV N).isSome = true) (h3 : setC N ≠ 0) (h4 : ∀ i, i < N.r.length → (settleV (suspD N i)).isSome = true) : V25 N := by
  have hg := good_of h1
  have g1 := hg.g1
  have g8 := hg.g8
  have r14 := hg.r14
  have hbl := begunM_len N
  have hF : ∀ k, k < N.r.length → settleV (suspD N k) = some (suspF N k) := fun k hk => by
    obtain ⟨d, hd⟩ := Option.isSome_iff_exists.1 (h4 k hk)
    unfold suspF; rw [hd]; rfl
  have hFl : ∀ k, k < N.r.length → (suspF N k).all.length = N.r.length + N.g.length ∧ (suspF N k).out = N.g.length ∧ (suspF N k).nR = N.r.length := fun k hk => by
    obtain ⟨a, b, c⟩ := settleM_len (hF k hk)
    exact ⟨a.trans (suspD_len N k), b, c⟩
  have hFs : ∀ k, k < N.r.length → (gD (suspF N k).all k).sp = wide := fun k hk => by
    rw [(settleM_ends (hF k hk) k).2.2, suspD_gD (by omega), if_pos rfl]
  have hro : ∀ k, (suspK N k).length ≤ k := fun k => by
    unfold suspK; rw [List.length_map]; exact Nat.le_trans (List.length_filter_le _ _) (by simp)
  rw [vc25]; delta z25_0 z25_1 z25_2 z25_3 z25_4 z25_5 z25_6 z25_7 z25_8 z25_9 z25_10 z25_11 z25_12 z25_13 z25_14 z25_15 z25_16 z25_17 z25_18 z25_19 z25_20 z25_21 z25_22 z25_23 z25_24 z25_25 z25_26 z25_27 z25_28 z25_29 z25_30 z25_31 z25_32 z25_33 z25_34 z25_35 z25_36 z25_37 z25_38 z25_39 z25_40 z25_41 z25_42 z25_43 z25_44 z25_45 z25_46 z25_47 z25_48 z25_49 z25_50 z25_51 z25_52 z25_53 z25_54 z25_55 z25_56 z25_57 z25_58 z25_59 z25_60 z25_61 z25_62 z25_63 z25_64 z25_65 z25_66 z25_67 z25_68 z25_69 z25_70 z25_71 z25_72 z25_73 z25_74 z25_75 z25_76 z25_77 z25_78 z25_79 z25_80 z25_81 z25_82 z25_83 z25_84 z25_85 z25_86 z25_87 z25_88 z25_89 z25_90 z25_91 z25_92 z25_93 z25_94 z25_95 z25_96 z25_97 z25_98 z25_99 z25_100 z25_101 z25_102 z25_103 z25_104 z25_105 z25_106 z25_107 z25_108 z25_109 z25_110 z25_111 z25_112 z25_113 z25_114 z25_115 z25_116 z25_117 z25_118 z25_119 z25_120 z25_121 z25_122 z25_123 z25_124; simp only [condP, eq_self, implies_true, and_self, true_and, and_true, true_implies, forall_const, decide_eq_true_eq, decide_eq_false_iff_not, Int.toNat_natCast, dSpan_eSpan, dReach_eReach, dWay_eWay, dStep_eStep, dFar_eFar, dInt_eInt, Nat.zero_add, Int.zero_sub, Nat.le_eq, Nat.succ_eq_add_one, Nat.add_one_le_iff, Bool.not_eq_true', Bool.not_eq_false', rng_length, dSpan_mk, dReach_mk, dWay_mk, dStep_mk, dFar_mk, rng_getD, DL.d6, DL.d7, DL.d8, susp_fold, truth_f, truth_t, List.headD_cons]
  have hdi : ∀ k, k < N.r.length → ∀ i, i < (suspD N k).all.length → (gD (suspD N k).all i).fr = (bif decide (i = k) then (gD (begunM N).all k).fr else (gD (begunM N).all i).fr) ∧ (gD (suspD N k).all i).to = (bif decide (i = k) then (gD (begunM N).all k).to else (gD (begunM N).all i).to) ∧ (gD (suspD N k).all i).sp.lo = (bif decide (i = k) then -100000000 else (gD (begunM N).all i).sp.lo) ∧ (gD (suspD N k).all i).sp.hi = (bif decide (i = k) then 100000000 else (gD (begunM N).all i).sp.hi) ∧ (gD (suspD N k).all i).now = (bif decide (i = k) then (gD (begunM N).all k).now else (gD (begunM N).all i).now) := fun k hk i _ => by
    rw [suspD_gD (by omega)]
    by_cases he : i = k
    · subst he; rw [if_pos rfl]; refine ⟨?_, ?_, ?_, ?_, ?_⟩ <;> (simp; try rfl)
    · rw [if_neg he]; refine ⟨?_, ?_, ?_, ?_, ?_⟩ <;> simp [he]
  have hdl : ∀ k, (suspD N k).all.length = (begunM N).all.length := fun k => by rw [suspD_len, hbl]
  have hsr : ∀ q, q < N.r.length → ∀ j, j < N.r.length → (gD (suspN N q).r j).fr = (bif decide (j = q) then (gD N.r q).fr else (gD N.r j).fr) ∧ (gD (suspN N q).r j).to = (bif decide (j = q) then (gD N.r q).to else (gD N.r j).to) ∧ (gD (suspN N q).r j).sp.lo = (bif decide (j = q) then (gD (suspF N q).all q).sp.lo else (gD N.r j).sp.lo) ∧ (gD (suspN N q).r j).sp.hi = (bif decide (j = q) then (gD (suspF N q).all q).sp.hi else (gD N.r j).sp.hi) := fun q hq j _ => by
    have e : gD (suspN N q).r j = if j = q then { (gD N.r q) with sp := wide } else gD N.r j := by
      show gD (N.r.modify q fun r => { r with sp := wide }) j = _
      rw [gD_modify hq]
    rw [e, hFs q hq]
    by_cases he : j = q
    · subst he; rw [if_pos rfl]; refine ⟨?_, ?_, ?_, ?_⟩ <;> simp
    · rw [if_neg he]; refine ⟨?_, ?_, ?_, ?_⟩ <;> simp [he]
  have hB : ∀ k, ((costM ⟨N.g, (suspN N k).r⟩ (truthM (suspF N k)) == 0) : Bool) = suspB N k := fun k => by
    unfold suspB
    show (costM (suspN N k) (truthM (suspF N k)) == 0) = _
    by_cases h : costM (suspN N k) (truthM (suspF N k)) = 0 <;> simp [h]
  refine ⟨⟨h1, h2⟩, fun h => absurd h h3, fun _ => ⟨⟨0, rfl, Nat.zero_le _, rfl⟩, ?la, ?lb⟩⟩
  case la =>
    intro k ⟨hk, hnil⟩
    refine ⟨fun hlt => ⟨⟨⟨by omega, by omega⟩, by omega⟩, ⟨⟨⟨by omega, by omega⟩, by omega⟩, ⟨k, ⟨rfl, rfl, hdl k, rfl, rfl, hdl k, hdi k (by omega)⟩, by omega, hnil, rfl⟩⟩, ?ca, ?cb⟩, fun hge => ?_⟩
    case ca =>
      intro q ⟨hq, hn, hm⟩
      obtain ⟨l1, l2, l3⟩ := hFl q hq
      rw [susp_r hq (hFs q hq), hB, l1, l2, l3, truth_fl, truth_tl, l2, l3]
      refine ⟨⟨suspD_ok hg hq, by rw [hF q hq]; rfl⟩, ⟨⟨g1, by omega⟩, Nat.le_refl _⟩, ⟨by omega, by omega⟩, ⟨⟨by omega, by omega⟩, by omega, ⟨by omega, by omega⟩, hq⟩, ⟨Nat.le_refl _, hsr q hq, rfl, Nat.le_refl _, rfl, Nat.le_refl _, ⟨g1, by omega⟩, by omega, rfl, rfl⟩, fun hb => ?_, fun hb => ?_⟩
      · have e : suspK N (q + 1) = [(q : Int)] := by rw [suspK_succ, if_pos hb, hn]; rfl
        refine ⟨⟨by decide, by decide, by decide, by decide, by decide⟩, q + 1, ⟨by rw [e]; rfl, (wsucc (by omega)).symm, by rw [e]; rfl, fun i hi => ?_⟩, by omega, by omega⟩
        rw [e] at hi ⊢
        have : i = 0 := by simpa using hi
        subst this; rfl
      · have e : suspK N (q + 1) = [] := by rw [suspK_succ, hb, hn]; rfl
        exact ⟨q + 1, (wsucc (by omega)).symm, ⟨by omega, e⟩, by omega⟩
    case cb =>
      intro q ⟨hq, hm⟩
      obtain ⟨l1, l2, l3⟩ := hFl q hq
      rw [susp_r hq (hFs q hq), hB, l1, l2, l3, truth_fl, truth_tl, l2, l3]
      refine ⟨⟨suspD_ok hg hq, by rw [hF q hq]; rfl⟩, ⟨⟨g1, by omega⟩, Nat.le_refl _⟩, ⟨by omega, by omega⟩, ⟨⟨by omega, by omega⟩, by omega, ⟨by omega, by omega⟩, hq⟩, ⟨Nat.le_refl _, hsr q hq, rfl, Nat.le_refl _, rfl, Nat.le_refl _, ⟨g1, by omega⟩, by omega, rfl, rfl⟩, fun hb => ?_, fun hb => ?_⟩
      · have e : suspK N (q + 1) = suspK N q ++ [(q : Int)] := by rw [suspK_succ, if_pos hb]
        have := hro q
        refine ⟨⟨by decide, by decide, by omega, by omega⟩, q + 1, ⟨by rw [e]; simp, (wsucc (by omega)).symm, by rw [e]; simp, fun i hi => ?_⟩, by omega, by omega⟩
        rw [e] at hi ⊢
        rw [gD_append]
        by_cases hi2 : i < (suspK N q).length
        · simp [hi2]
        · have : i - (suspK N q).length = 0 := by simp at hi; omega
          simp only [hi2, if_false, decide_false, cond_false, this]; rfl
      · have e : suspK N (q + 1) = suspK N q := by rw [suspK_succ, hb]; rfl
        exact ⟨q + 1, ⟨by rw [e], (wsucc (by omega)).symm, by rw [e], fun i _ => by rw [e]⟩, by omega, by omega⟩
    · have : k = N.r.length := by omega
      subst this; rw [hnil]; rfl
  case lb =>
    intro k hk
    refine ⟨fun hlt => ⟨⟨⟨by omega, by omega⟩, by omega⟩, ⟨⟨⟨by omega, by omega⟩, by omega⟩, ⟨k, ⟨rfl, rfl, rfl, hdl k, rfl, rfl, hdl k, hdi k (by omega), rfl, fun _ _ => rfl⟩, by omega, rfl⟩⟩, ?ca, ?cb⟩, fun hge => ?_⟩
    case ca =>
      intro q ⟨hq, hn, hm⟩
      obtain ⟨l1, l2, l3⟩ := hFl q hq
      rw [susp_r hq (hFs q hq), hB, l1, l2, l3, truth_fl, truth_tl, l2, l3]
      refine ⟨⟨suspD_ok hg hq, by rw [hF q hq]; rfl⟩, ⟨⟨g1, by omega⟩, Nat.le_refl _⟩, ⟨by omega, by omega⟩, ⟨⟨by omega, by omega⟩, by omega, ⟨by omega, by omega⟩, hq⟩, ⟨Nat.le_refl _, hsr q hq, rfl, Nat.le_refl _, rfl, Nat.le_refl _, ⟨g1, by omega⟩, by omega, rfl, rfl⟩, fun hb => ?_, fun hb => ?_⟩
      · have e : suspK N (q + 1) = [(q : Int)] := by rw [suspK_succ, if_pos hb, hn]; rfl
        refine ⟨⟨by decide, by decide, by decide, by decide, by decide⟩, q + 1, ⟨by rw [e]; rfl, (wsucc (by omega)).symm, by rw [e]; rfl, fun i hi => ?_⟩, by omega, by omega⟩
        rw [e] at hi ⊢
        have : i = 0 := by simpa using hi
        subst this; rfl
      · have e : suspK N (q + 1) = [] := by rw [suspK_succ, hb, hn]; rfl
        exact ⟨q + 1, (wsucc (by omega)).symm, ⟨by omega, e⟩, by omega⟩
    case cb =>
      intro q ⟨hq, hm⟩
      obtain ⟨l1, l2, l3⟩ := hFl q hq
      rw [susp_r hq (hFs q hq), hB, l1, l2, l3, truth_fl, truth_tl, l2, l3]
      refine ⟨⟨suspD_ok hg hq, by rw [hF q hq]; rfl⟩, ⟨⟨g1, by omega⟩, Nat.le_refl _⟩, ⟨by omega, by omega⟩, ⟨⟨by omega, by omega⟩, by omega, ⟨by omega, by omega⟩, hq⟩, ⟨Nat.le_refl _, hsr q hq, rfl, Nat.le_refl _, rfl, Nat.le_refl _, ⟨g1, by omega⟩, by omega, rfl, rfl⟩, fun hb => ?_, fun hb => ?_⟩
      · have e : suspK N (q + 1) = suspK N q ++ [(q : Int)] := by rw [suspK_succ, if_pos hb]
        have := hro q
        refine ⟨⟨by decide, by decide, by omega, by omega⟩, q + 1, ⟨by rw [e]; simp, (wsucc (by omega)).symm, by rw [e]; simp, fun i hi => ?_⟩, by omega, by omega⟩
        rw [e] at hi ⊢
        rw [gD_append]
        by_cases hi2 : i < (suspK N q).length
        · simp [hi2]
        · have : i - (suspK N q).length = 0 := by simp at hi; omega
          simp only [hi2, if_false, decide_false, cond_false, this]; rfl
      · have e : suspK N (q + 1) = suspK N q := by rw [suspK_succ, hb]; rfl
        exact ⟨q + 1, ⟨by rw [e], (wsucc (by omega)).symm, by rw [e], fun i _ => by rw [e]⟩, by omega, by omega⟩
    · have : k = N.r.length := by omega
      subst this; exact ⟨rfl, Nat.le_refl _, fun _ _ => rfl⟩
theorem ok25 : SpecOk Try.prog 25 (C25.spec d67) := okC C25 A25 [] [202] Try.func25 (fun _ => by kernel_rfl) (fun _ => gok_cons ok19 (gok_cons ok67 (gok_cons ok68 (gok_cons ok56 (gok_cons ok69 (gok_cons ok70 gok_nil)))))) (fun N h => p25 N h.1 h.2.1 h.2.2.1 h.2.2.2) (fun _ => noI rfl rfl) _
end Go.Bal
