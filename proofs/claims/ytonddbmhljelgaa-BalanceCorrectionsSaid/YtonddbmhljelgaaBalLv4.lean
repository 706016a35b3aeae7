/- The reference: fits, Suspects. -/
import Derived.Test.YtonddbmhljelgaaBalLv3
set_option linter.unusedVariables false
set_option linter.unusedSimpArgs false
namespace Go.Bal
open Go Go.Sym Go.Proofs
structure SuI where
  i : Nat
  k : Nat
  deriving Inhabited
def rsR (N : NetL) (x : SuI) : Int := riseM (gD (allL N) x.k) (gD N.r x.i)
def rsS (N : NetL) (i : Nat) : Nat → Span
  | 0 => ⟨-100000000, 100000000⟩
  | k + 1 => limM (rsS N i k) (rsR N ⟨i, k⟩) (pvL N k i)
def rsF (N : NetL) (i : Nat) : Nat → Bool
  | 0 => true
  | k + 1 => bif (bif rsR N ⟨i, k⟩ == 0 then decide (pvL N k i > 0) else false) then false else rsF N i k
def rsB (N : NetL) (i : Nat) : Bool := rsF N i (allL N).length && decide ((rsS N i (allL N).length).lo ≤ (rsS N i (allL N).length).hi)
def rsK (N : NetL) (n : Nat) : List Int := ((List.range n).filter fun i => rsB N i).map fun (i : Nat) => (i : Int)
def rsSl (N : NetL) (v : AVal) (i : Nat) : List (Nat × AVal) := [(1, .bptr 203 0), (6, .d (eBoolsL (noneL N))), (7, .d (eLL (allL N))), (8, v), (9, .int i)]
def rsSl15 (N : NetL) (v : AVal) (x : SuI) : List (Nat × AVal) := rsSl N v x.i ++ [(10, .bptr 205 0), (11, .bool (rsF N x.i x.k)), (12, .int x.k)]
def rsO (N : NetL) (x : SuI) : HCell := .live (.box [.int (rsS N x.i x.k).lo, .int (rsS N x.i x.k).hi])
def rsOwn (N : NetL) (i : Nat) : AVal := .own 204 1 0 (rsK N i).length
def rsRow (N : NetL) (i : Nat) : HCell := rowL (rsK N i).length (rsK N i)
def rsI15 (N : NetL) (m : Nat) (x : SuI) : Prop := checkL N = 0 ∧ x.i < N.r.length ∧ N.r.length - x.i = m ∧ x.k ≤ (allL N).length
def rsI11 (N : NetL) (m : Nat) (i : Nat) : Prop := checkL N = 0 ∧ i < N.r.length ∧ N.r.length - i = m
def A26 (N : NetL) : Ann := { ann 102 [(18, C18.spec dN), (53, C53.spec d53), (54, C54.spec d54), (71, s71)] with mt := fun id => id == 22, cutIn := fun gs id => if id = 7 then some [{ α := One, dflt := default, T := fun _ => ⟨[(1, .bptr 203 0), (6, .d (eBoolsL (noneL N)))], [(203, begO N)]⟩, inv := fun _ => checkL N = 0 ∧ leastM N ≠ 0, meas := fun _ => 0, first := [(203, 1000)], ffz := [7048] }] else if id = 11 then if gs.getD 1 0 = 1 then some [{ α := Nat, dflt := 0, T := fun i => ⟨rsSl N (rsOwn N (i + 1)) i, [(203, begO N), (204, rsRow N (i + 1))]⟩, inv := rsI11 N (gs.getD 0 0), meas := fun _ => 0, first := [(204, 23048)] }, { α := Nat, dflt := 0, T := fun i => ⟨rsSl N (rsOwn N (i + 1)) i, [(203, begO N), (204, rsRow N (i + 1))]⟩, inv := rsI11 N (gs.getD 0 0), meas := fun _ => 0 }] else some [{ α := Nat, dflt := 0, T := fun i => ⟨rsSl N (rsOwn N (i + 1)) i, [(203, begO N), (204, rsRow N (i + 1))]⟩, inv := rsI11 N (gs.getD 0 0), meas := fun _ => 0, first := [(204, 23048)] }, { α := Nat, dflt := 0, T := fun i => ⟨rsSl N lvNil i, [(203, begO N)]⟩, inv := fun i => rsI11 N (gs.getD 0 0) i ∧ rsK N (i + 1) = [], meas := fun _ => 0 }] else none, loops := fun id => if id = 10 then some [{ α := Nat, dflt := 0, T := fun i => ⟨rsSl N lvNil i, [(203, begO N)]⟩, inv := fun i => checkL N = 0 ∧ leastM N ≠ 0 ∧ i ≤ N.r.length ∧ rsK N i = [], meas := fun i => N.r.length - i, tag := [0] }, { α := Nat, dflt := 0, T := fun i => ⟨rsSl N (rsOwn N i) i, [(203, begO N), (204, rsRow N i)]⟩, inv := fun i => checkL N = 0 ∧ leastM N ≠ 0 ∧ i ≤ N.r.length, meas := fun i => N.r.length - i, tag := [1] }] else none, inner := fun gs id => if id = 15 then if gs.getD 1 0 = 1 then some [{ α := SuI, dflt := default, T := fun x => ⟨rsSl15 N (rsOwn N x.i) x, [(203, begO N), (204, rsRow N x.i), (205, rsO N x)]⟩, inv := rsI15 N (gs.getD 0 0), meas := fun x => (allL N).length - x.k, first := [(205, 13016)] }] else some [{ α := SuI, dflt := default, T := fun x => ⟨rsSl15 N lvNil x, [(203, begO N), (205, rsO N x)]⟩, inv := fun x => rsI15 N (gs.getD 0 0) x ∧ rsK N x.i = [], meas := fun x => (allL N).length - x.k, first := [(205, 13016)] }] else none }
def rsE (N : NetL) : Int := if checkL N = 0 then if leastM N = 0 then 8 else 0 else checkL N
def rsT (N : NetL) : List Int := if rsE N = 0 then rsK N N.r.length else []
def C26 : Ctr := { α := NetL, xs := xsN, val := fun N => .tup [.d (eIntsL (rsT N)), .int (rsE N)], pre := fun N => [N.g.length ≤ 1000000 ∧ N.r.length ≤ 1000000] }
def V26 (N : NetL) : Prop := fnVC Try.prog (A26 N) Try.f26 (bodyOf Try.f26) (C26.xs N) (heapOf []) (C26.val N) (C26.keep N) [] [204]
abbrev z26_0 (N : NetL) : List Span := rng N.g.length fun (i : Nat) => gD N.g i
abbrev z26_1 (N : NetL) : Nat := (z26_0 N).length
abbrev z26_2 (N : NetL) : Prop := z26_1 N = N.g.length
abbrev z26_3 (N : NetL) (i : Nat) : Span := gD (z26_0 N) i
abbrev z26_4 (N : NetL) : Prop := ∀ (i : Nat), i < z26_1 N → (z26_3 N i).lo = (gD N.g i).lo ∧ (z26_3 N i).hi = (gD N.g i).hi
abbrev z26_5 (N : NetL) : List Reach := rng N.r.length fun (i : Nat) => gD N.r i
abbrev z26_6 (N : NetL) : Nat := (z26_5 N).length
abbrev z26_7 (N : NetL) : Prop := z26_6 N = N.r.length
abbrev z26_8 (N : NetL) (i : Nat) : Reach := gD (z26_5 N) i
abbrev z26_9 (N : NetL) (i : Nat) : Span := (z26_8 N i).sp
abbrev z26_10 (N : NetL) : Prop := ∀ (i : Nat), i < z26_6 N → (z26_8 N i).fr = (gD N.r i).fr ∧ (z26_8 N i).to = (gD N.r i).to ∧ (z26_9 N i).lo = (gD N.r i).sp.lo ∧ (z26_9 N i).hi = (gD N.r i).sp.hi
abbrev z26_11 (N : NetL) : NetL := NetL.mk (z26_0 N) (z26_5 N)
abbrev z26_12 (N : NetL) : Int := checkL (z26_11 N)
abbrev z26_13 (N : NetL) : Prop := (rsT N).length = (0 : Nat)
abbrev z26_14 (N : NetL) : Prop := N.g.length = N.g.length
abbrev z26_15 (N : NetL) : Prop := ∀ (i : Nat), i < N.g.length → (gD N.g i).lo = (gD N.g i).lo ∧ (gD N.g i).hi = (gD N.g i).hi
abbrev z26_16 (N : NetL) : Prop := N.r.length = N.r.length
abbrev z26_17 (N : NetL) : Prop := ∀ (i : Nat), i < N.r.length → (gD N.r i).fr = (gD N.r i).fr ∧ (gD N.r i).to = (gD N.r i).to ∧ (gD N.r i).sp.lo = (gD N.r i).sp.lo ∧ (gD N.r i).sp.hi = (gD N.r i).sp.hi
abbrev z26_18 (N : NetL) : Prop := z26_14 N ∧ z26_15 N ∧ z26_16 N ∧ z26_17 N
abbrev z26_19 (N : NetL) : Prop := checkL N = (0 : Int) ∧ leastM N ≠ (0 : Int)
abbrev z26_20 (N : NetL) : List Bool := rng (noneL N).length fun (i : Nat) => gD (noneL N) i
abbrev z26_21 (N : NetL) : Nat := (z26_20 N).length
abbrev z26_22 (N : NetL) : Prop := z26_21 N = (noneL N).length
abbrev z26_23 (N : NetL) : Prop := ∀ (i : Nat), i < z26_21 N → gD (z26_20 N) i = gD (noneL N) i
abbrev z26_24 : Prop := (0 : Int) = Int.ofNat (0 : Nat)
abbrev z26_25 (N : NetL) : Prop := z26_12 N = (0 : Int)
abbrev z26_26 (N : NetL) : Prop := z26_21 N = z26_1 N
abbrev z26_27 (N : NetL) : Prop := (noneL N).length = (noneL N).length
abbrev z26_28 (N : NetL) : Prop := ∀ (i : Nat), i < (noneL N).length → gD (noneL N) i = gD (noneL N) i
abbrev z26_29 (N : NetL) : List (List Int) := lvAll (LvA.mk (z26_11 N) (z26_20 N) (0 : Int)) (z26_1 N)
abbrev z26_30 (N : NetL) (i : Nat) : Nat := (gD (allL N) i).length
abbrev z26_31 (N : NetL) (i : Nat) : List Int := gD (z26_29 N) i
abbrev z26_32 (i : Nat) (N : NetL) (i1 : Nat) : Prop := i < z26_30 N i1
abbrev z26_33 (N : NetL) (i : Nat) (i1 : Nat) : Int := gD (gD (allL N) i) i1
abbrev z26_34 : Prop := (0 : Nat) = (0 : Nat)
abbrev z26_35 : Prop := ∀ (i : Nat), i < (0 : Nat) → false = false
abbrev z26_36 (N : NetL) (a : Nat) : Prop := checkL N = (0 : Int) ∧ leastM N ≠ (0 : Int) ∧ a ≤ N.r.length ∧ rsK N a = []
abbrev z26_37 (a : Nat) (N : NetL) : Bool := decide ((↑a : Int) < (↑N.r.length : Int))
abbrev z26_38 (N : NetL) : Prop := (allL N).length = (allL N).length
abbrev z26_39 (N : NetL) : Prop := ∀ (i : Nat), i < (allL N).length → z26_30 N i = z26_30 N i ∧ ∀ (i_1 : Nat), z26_32 i_1 N i → z26_33 N i i_1 = z26_33 N i i_1
abbrev z26_40 (a : SuI) (a1 : Nat) : Prop := (↑a.i : Int) = (↑a1 : Int)
abbrev z26_41 (a : SuI) : Prop := (↑a.k : Int) = (0 : Int)
abbrev z26_42 (N : NetL) (a : SuI) : Prop := (rsS N a.i a.k).lo = (-100000000 : Int) ∧ (rsS N a.i a.k).hi = (100000000 : Int)
abbrev z26_43 (N : NetL) (a : SuI) : Nat := N.r.length - a.i
abbrev z26_44 (N : NetL) (a : Nat) : Nat := N.r.length - a
abbrev z26_45 : List Nat := [] ++ []
abbrev z26_46 (N : NetL) (a : Nat) : Nat := (z26_44 N a :: ([(0 : Nat)] ++ z26_45)).getD (0 : Nat) (0 : Nat)
abbrev z26_47 (a : SuI) (N : NetL) : Prop := a.k ≤ (allL N).length
abbrev z26_48 (N : NetL) (a : SuI) (a1 : Nat) : Prop := (checkL N = (0 : Int) ∧ a.i < N.r.length ∧ z26_43 N a = z26_46 N a1 ∧ z26_47 a N) ∧ rsK N a.i = []
abbrev z26_49 (a : SuI) (N : NetL) : Prop := (↑a.k : Int) < (↑(allL N).length : Int)
abbrev z26_50 (a : SuI) (N : NetL) : Bool := decide (z26_49 a N)
abbrev z26_51 (a : SuI) (N : NetL) : Prop := (0 : Int) ≤ (↑a.k : Int) ∧ z26_49 a N
abbrev z26_52 (a : SuI) (N : NetL) : Prop := (0 : Int) ≤ (↑a.i : Int) ∧ (↑a.i : Int) < (↑N.r.length : Int)
abbrev z26_53 (N : NetL) (a : SuI) : Nat := (gD (allL N) a.k).length
abbrev z26_54 (N : NetL) (a : SuI) (i : Nat) : Int := gD (gD (allL N) a.k) i
abbrev z26_55 (N : NetL) (a : SuI) : List Int := rng (z26_53 N a) fun (i : Nat) => z26_54 N a i
abbrev z26_56 (N : NetL) (a : SuI) : Nat := (z26_55 N a).length
abbrev z26_57 (a : SuI) (N : NetL) : Prop := z26_51 a N ∧ z26_52 a N ∧ ((0 : Int) ≤ (gD N.r a.i).to ∧ (gD N.r a.i).to < (↑(z26_53 N a) : Int)) ∧ z26_51 a N ∧ z26_52 a N ∧ ((0 : Int) ≤ (gD N.r a.i).fr ∧ (gD N.r a.i).fr <
 (↑(z26_53 N a) : Int)) ∧ z26_51 a N ∧ z26_2 N ∧ z26_4 N ∧ z26_7 N ∧ z26_10 N ∧ z26_56 N a = z26_53 N a ∧ (∀ (i : Nat), i < z26_56 N a → gD (z26_55 N a) i = z26_54 N a i) ∧ z26_22 N ∧ z26_23 N ∧ z26_24 ∧ (↑a.i : Int) =
 (↑a.i : Int) ∧ z26_25 N ∧ z26_56 N a = z26_1 N ∧ z26_26 N
abbrev z26_58 (N : NetL) (a : SuI) : Int := IntKind.i64.wrap (gD (gD (allL N) a.k) (gD N.r a.i).to.toNat - gD (gD (allL N) a.k) (gD N.r a.i).fr.toNat)
abbrev z26_59 (N : NetL) (a : SuI) : Int := pvG (PvA.mk (z26_11 N) (z26_55 N a) (z26_20 N) (0 : Int) (↑a.i : Int)) (z26_1 N)
abbrev z26_60 (N : NetL) (a : SuI) : Bool := bif z26_58 N a == (0 : Int) then decide (z26_59 N a > (0 : Int)) else false
abbrev z26_61 (a : SuI) (a1 : SuI) : Prop := (↑a.i : Int) = (↑a1.i : Int)
abbrev z26_62 (a : SuI) (a1 : SuI) : Prop := (↑a.k : Int) = IntKind.i64.wrap ((↑a1.k : Int) + (1 : Int))
abbrev z26_63 (N : NetL) (a : SuI) : Span := limM (rsS N a.i a.k) (z26_58 N a) (z26_59 N a)
abbrev z26_64 (N : NetL) (a : SuI) (a1 : SuI) : Prop := (rsS N a.i a.k).lo = (z26_63 N a1).lo ∧ (rsS N a.i a.k).hi = (z26_63 N a1).hi
abbrev z26_65 (a : SuI) (a1 : SuI) (N : NetL) : Prop := z26_62 a a1 ∧ z26_14 N ∧ z26_15 N ∧ z26_16 N ∧ z26_17 N ∧ z26_64 N a a1
abbrev z26_66 (N : NetL) (a : SuI) : Nat := (allL N).length - a.k
abbrev z26_67 (N : NetL) (a : SuI) (a1 : SuI) : Prop := z26_66 N a < z26_66 N a1
abbrev z26_68 (N : NetL) (a : SuI) (a1 : Nat) (a2 : SuI) : Prop := z26_48 N a a1 ∧ z26_67 N a a2
abbrev z26_69 (N : NetL) (a : SuI) (a1 : SuI) : Prop := rsF N a.i a.k = rsF N a1.i a1.k
abbrev z26_70 (N : NetL) (a : SuI) : Bool := bif rsF N a.i a.k then decide ((rsS N a.i a.k).lo ≤ (rsS N a.i a.k).hi) else false
abbrev z26_71 : Prop := (0 : Nat) < (1 : Nat)
abbrev z26_72 : Prop := (1 : Nat) = (1 : Nat)
abbrev z26_73 : Prop := (1 : Nat) ≤ (1 : Nat) ∧ (z26_71 → z26_72)
abbrev z26_74 (N : NetL) (a : Nat) : List Int := rsK N (a + (1 : Nat))
abbrev z26_75 (N : NetL) (a : Nat) : Nat := (z26_74 N a).length
abbrev z26_76 (N : NetL) (a : Nat) : Prop := z26_75 N a = (1 : Nat)
abbrev z26_77 (a : Nat) (a1 : SuI) : Prop := (↑a : Int) = (↑a1.i : Int)
abbrev z26_78 (i : Nat) (N : NetL) (a : Nat) : Prop := i < z26_75 N a
abbrev z26_79 (N : NetL) (a : Nat) (i : Nat) : Int := gD (z26_74 N a) i
abbrev z26_80 (N : NetL) (a : Nat) (a1 : Nat) : Prop := checkL N = (0 : Int) ∧ a < N.r.length ∧ z26_44 N a = z26_46 N a1
abbrev z26_81 (N : NetL) (a : Nat) (a1 : Nat) : Prop := z26_80 N a a1 ∧ z26_74 N a = []
abbrev z26_82 (N : NetL) (a : Nat) (a1 : Nat) : Prop := (rsK N a).length = z26_75 N a1
abbrev z26_83 (a : Nat) (a1 : Nat) : Prop := (↑a : Int) = IntKind.i64.wrap ((↑a1 : Int) + (1 : Int))
abbrev z26_84 (N : NetL) (a : Nat) : Prop := checkL N = (0 : Int) ∧ leastM N ≠ (0 : Int) ∧ a ≤ N.r.length
abbrev z26_85 (N : NetL) (a : Nat) (a1 : Nat) : Prop := z26_44 N a < z26_44 N a1
abbrev z26_86 (N : NetL) (a : Nat) (a1 : Nat) : Prop := ∃ (a_1 : Nat), (z26_27 N ∧ z26_28 N ∧ z26_38 N ∧ z26_39 N ∧ z26_34 ∧ z26_82 N a_1 a ∧ z26_83 a_1 a ∧ z26_14 N ∧ z26_15 N ∧ z26_16 N ∧ z26_17 N ∧ z26_82 N a_1 a ∧ ∀
 (i : Nat), i < (rsK N a_1).length → gD (rsK N a_1) i = z26_79 N a i) ∧ z26_84 N a_1 ∧ z26_85 N a_1 a1
abbrev z26_87 (N : NetL) (a : SuI) (a1 : Nat) : Prop := (rsK N a.i).length = (rsK N a1).length
abbrev z26_88 (i : Nat) (N : NetL) (a : SuI) : Prop := i < (rsK N a.i).length
abbrev z26_89 (N : NetL) (a : Nat) : Nat := (z26_44 N a :: ([(1 : Nat)] ++ z26_45)).getD (0 : Nat) (0 : Nat)
abbrev z26_90 (N : NetL) (a : SuI) (a1 : Nat) : Prop := checkL N = (0 : Int) ∧ a.i < N.r.length ∧ z26_43 N a = z26_89 N a1 ∧ z26_47 a N
abbrev z26_91 (N : NetL) (a : SuI) (a1 : SuI) : Prop := (rsK N a.i).length = (rsK N a1.i).length
abbrev z26_92 (a : SuI) (a1 : SuI) (N : NetL) : Prop := z26_62 a a1 ∧ z26_14 N ∧ z26_15 N ∧ z26_16 N ∧ z26_17 N ∧ z26_91 N a a1 ∧ (∀ (i : Nat), z26_88 i N a → gD (rsK N a.i) i = gD (rsK N a1.i) i) ∧ z26_64 N a a1
abbrev z26_93 (N : NetL) (a : SuI) (a1 : Nat) (a2 : SuI) : Prop := z26_90 N a a1 ∧ z26_67 N a a2
abbrev z26_94 (N : NetL) (a : SuI) : Nat := (rsK N a.i).length + (1 : Nat)
abbrev z26_95 (N : NetL) (a : Nat) (a1 : SuI) : Prop := z26_75 N a = z26_94 N a1
abbrev z26_96 (N : NetL) (a : Nat) (a1 : Nat) : Prop := checkL N = (0 : Int) ∧ a < N.r.length ∧ z26_44 N a = z26_89 N a1
abbrev z26_97 (N : NetL) (a : Nat) (a1 : SuI) : Prop := z26_75 N a = (rsK N a1.i).length
abbrev z26_98 (N : NetL) (a : Nat) : Prop := ∀ (a_1 : Nat), z26_96 N a_1 a → z26_86 N a_1 a
theorem vc26 (N : NetL) : (V26 N) = ((z26_2 N ∧ z26_4 N ∧ z26_7 N ∧ z26_10 N ∧ z26_1 N ≤ (1000000 : Nat) ∧ z26_6 N ≤ (1000000 : Nat)) ∧ bif z26_12 N != (0 : Int) then z26_13 N ∧ z26_13 N ∧ rsE N = z26_12 N else bif
 leastM (z26_11 N) == (0 : Int) then z26_13 N ∧ z26_13 N ∧ rsE N = (8 : Int) else (((0 : Int) ≤ (↑N.g.length : Int) ∧ (↑N.g.length : Int) = (↑N.g.length : Int) ∧ (↑N.g.length : Int) ≤ (9223372036854775807 : Int) ∧ (↑(1 :
 Nat) : Int) * (↑N.g.length : Int) ≤ (281474976710656 : Int)) ∧ ∃ (a : One), ((noneL N).length = N.g.length ∧ (0 : Nat) + N.g.length ≤ N.g.length ∧ (∀ (j : Nat), j < (noneL N).length → gD (noneL N) j = false) ∧ z26_18 N)
 ∧ z26_19 N) ∧ ∀ (a : One), z26_19 N → (z26_2 N ∧ z26_4 N ∧ z26_7 N ∧ z26_10 N ∧ z26_22 N ∧ z26_23 N ∧ z26_24 ∧ z26_25 N ∧ z26_26 N ∧ (-1 : Int) ≤ (0 : Int) ∧ (0 : Int) ≤ (1 : Int)) ∧ (∃ (a : Nat), (z26_27 N ∧ z26_28 N ∧
 (allL N).length = (z26_29 N).length ∧ (∀ (i : Nat), i < (allL N).length → z26_30 N i = (z26_31 N i).length ∧ ∀ (i_1 : Nat), z26_32 i_1 N i → z26_33 N i i_1 = gD (z26_31 N i) i_1) ∧ z26_34 ∧ z26_35 ∧ (↑a : Int) = (0 :
 Int) ∧ z26_18 N) ∧ z26_36 N a) ∧ (∀ (a : Nat), z26_36 N a → bif z26_37 a N then ((∃ (a_2 : SuI), (z26_27 N ∧ z26_28 N ∧ z26_38 N ∧ z26_39 N ∧ z26_34 ∧ z26_35 ∧ z26_40 a_2 a ∧ rsF N a_2.i a_2.k = true ∧ z26_41 a_2 ∧
 z26_14 N ∧ z26_15 N ∧ z26_16 N ∧ z26_17 N ∧ z26_42 N a_2) ∧ z26_48 N a_2 a) ∧ ∀ (a_2 : SuI), z26_48 N a_2 a → bif z26_50 a_2 N then z26_57 a_2 N ∧ bif z26_60 N a_2 then ∃ (a_4 : SuI), (z26_27 N ∧ z26_28 N ∧ z26_38 N ∧
 z26_39 N ∧ z26_34 ∧ z26_35 ∧ z26_61 a_4 a_2 ∧ rsF N a_4.i a_4.k = false ∧ z26_65 a_4 a_2 N) ∧ z26_68 N a_4 a a_2 else ∃ (a_4 : SuI), (z26_27 N ∧ z26_28 N ∧ z26_38 N ∧ z26_39 N ∧ z26_34 ∧ z26_35 ∧ z26_61 a_4 a_2 ∧ z26_69
 N a_4 a_2 ∧ z26_65 a_4 a_2 N) ∧ z26_68 N a_4 a a_2 else bif z26_70 N a_2 then ((True ∧ ((0 : Nat) < (0 : Nat) → (0 : Nat) = (1 : Nat))) ∧ z26_73 ∧ (true = true → z26_71) ∧ (1 : Nat) ≤ (9223372036854775807 : Nat) ∧ (8 :
 Nat) ≤ (140737488355328 : Nat)) ∧ ∃ (a_4 : Nat), (z26_27 N ∧ z26_28 N ∧ z26_38 N ∧ z26_39 N ∧ z26_34 ∧ z26_76 N a_4 ∧ z26_77 a_4 a_2 ∧ z26_14 N ∧ z26_15 N ∧ z26_16 N ∧ z26_17 N ∧ z26_76 N a_4 ∧ ∀ (i : Nat), z26_78 i N
 a_4 → z26_79 N a_4 i = (↑a_2.i : Int)) ∧ z26_80 N a_4 a else ∃ (a_4 : Nat), (z26_27 N ∧ z26_28 N ∧ z26_38 N ∧ z26_39 N ∧ z26_34 ∧ z26_35 ∧ z26_77 a_4 a_2 ∧ z26_18 N) ∧ z26_81 N a_4 a) ∧ (∀ (a_2 : Nat), z26_80 N a_2 a →
 z26_86 N a_2 a) ∧ ∀ (a_2 : Nat), z26_81 N a_2 a → ∃ (a_4 : Nat), (z26_27 N ∧ z26_28 N ∧ z26_38 N ∧ z26_39 N ∧ z26_34 ∧ z26_35 ∧ z26_83 a_4 a_2 ∧ z26_18 N) ∧ z26_36 N a_4 ∧ z26_85 N a_4 a else z26_13 N ∧ z26_13 N ∧ rsE N
 = (0 : Int)) ∧ ∀ (a : Nat), z26_84 N a → bif z26_37 a N then ((∃ (a_2 : SuI), (z26_27 N ∧ z26_28 N ∧ z26_38 N ∧ z26_39 N ∧ z26_34 ∧ z26_87 N a_2 a ∧ z26_40 a_2 a ∧ rsF N a_2.i a_2.k = true ∧ z26_41 a_2 ∧ z26_14 N ∧
 z26_15 N ∧ z26_16 N ∧ z26_17 N ∧ z26_87 N a_2 a ∧ (∀ (i : Nat), z26_88 i N a_2 → gD (rsK N a_2.i) i = gD (rsK N a) i) ∧ z26_42 N a_2) ∧ z26_90 N a_2 a) ∧ ∀ (a_2 : SuI), z26_90 N a_2 a → bif z26_50 a_2 N then z26_57 a_2 N
 ∧ bif z26_60 N a_2 then ∃ (a_4 : SuI), (z26_27 N ∧ z26_28 N ∧ z26_38 N ∧ z26_39 N ∧ z26_34 ∧ z26_91 N a_4 a_2 ∧ z26_61 a_4 a_2 ∧ rsF N a_4.i a_4.k = false ∧ z26_92 a_4 a_2 N) ∧ z26_93 N a_4 a a_2 else ∃ (a_4 : SuI),
 (z26_27 N ∧ z26_28 N ∧ z26_38 N ∧ z26_39 N ∧ z26_34 ∧ z26_91 N a_4 a_2 ∧ z26_61 a_4 a_2 ∧ z26_69 N a_4 a_2 ∧ z26_92 a_4 a_2 N) ∧ z26_93 N a_4 a a_2 else bif z26_70 N a_2 then (((rsK N a_2.i).length = (rsK N a_2.i).length
 ∧ ((0 : Nat) < (rsK N a_2.i).length → z26_72)) ∧ z26_73 ∧ (false = true → z26_71) ∧ z26_94 N a_2 ≤ (9223372036854775807 : Nat) ∧ z26_94 N a_2 * (8 : Nat) ≤ (140737488355328 : Nat)) ∧ ∃ (a_4 : Nat), (z26_27 N ∧ z26_28 N ∧
 z26_38 N ∧ z26_39 N ∧ z26_34 ∧ z26_95 N a_4 a_2 ∧ z26_77 a_4 a_2 ∧ z26_14 N ∧ z26_15 N ∧ z26_16 N ∧ z26_17 N ∧ z26_95 N a_4 a_2 ∧ ∀ (i : Nat), z26_78 i N a_4 → z26_79 N a_4 i = bif decide (z26_88 i N a_2) then gD (rsK N
 a_2.i) i else (↑a_2.i : Int)) ∧ z26_96 N a_4 a else ∃ (a_4 : Nat), (z26_27 N ∧ z26_28 N ∧ z26_38 N ∧ z26_39 N ∧ z26_34 ∧ z26_97 N a_4 a_2 ∧ z26_77 a_4 a_2 ∧ z26_14 N ∧ z26_15 N ∧ z26_16 N ∧ z26_17 N ∧ z26_97 N a_4 a_2 ∧
 ∀ (i : Nat), z26_78 i N a_4 → z26_79 N a_4 i = gD (rsK N a_2.i) i) ∧ z26_96 N a_4 a) ∧ z26_98 N a ∧ z26_98 N a else (rsT N).length = (rsK N a).length ∧ (0 : Nat) + (rsK N a).length ≤ (rsK N a).length ∧ (∀ (j : Nat), j <
 (rsT N).length → gD (rsT N) j = gD (rsK N a) ((0 : Nat) + j)) ∧ rsE N = (0 : Int)) := by kernel_rfl
theorem rsK_yes {N : NetL} {i : Nat} (h : rsB N i = true) : rsK N (i + 1) = rsK N i ++ [(i : Int)] := by
  simp [rsK, List.range_succ, List.filter_append, h]
theorem rsK_no {N : NetL} {i : Nat} (h : rsB N i = false) : rsK N (i + 1) = rsK N i := by
  simp [rsK, List.range_succ, List.filter_append, h]
theorem rsK_len (N : NetL) (n : Nat) : (rsK N n).length ≤ n := by
  unfold rsK
  rw [List.length_map]
  have := List.length_filter_le (fun i => rsB N i) (List.range n)
  rw [List.length_range] at this; exact this
theorem rsB_eq (N : NetL) (i : Nat) : rsB N i = bif rsF N i (allL N).length then decide ((rsS N i (allL N).length).lo ≤ (rsS N i (allL N).length).hi) else false := by
  unfold rsB; cases rsF N i (allL N).length <;> rfl
theorem p26 (N : NetL) (h1 : N.g.length ≤ 1000000 ∧ N.r.length ≤ 1000000) : V26 N := by
  have et : NetL.mk N.g N.r = N := rfl
  have nl : (noneL N).length = N.g.length := by simp [noneL]
  have ea : lvAll (LvA.mk N (noneL N) 0) N.g.length = allL N := rfl
  rw [vc26]; delta z26_0 z26_1 z26_2 z26_3 z26_4 z26_5 z26_6 z26_7 z26_8 z26_9 z26_10 z26_11 z26_12 z26_13 z26_14 z26_15 z26_16 z26_17 z26_18 z26_19 z26_20 z26_21 z26_22 z26_23 z26_24 z26_25 z26_26 z26_27 z26_28 z26_29 z26_30 z26_31 z26_32 z26_33 z26_34 z26_35 z26_36 z26_37 z26_38 z26_39 z26_40 z26_41 z26_42 z26_43 z26_44 z26_45 z26_46 z26_47 z26_48 z26_49 z26_50 z26_51 z26_52 z26_53 z26_54 z26_55 z26_56 z26_57 z26_58 z26_59 z26_60 z26_61 z26_62 z26_63 z26_64 z26_65 z26_66 z26_67 z26_68 z26_69 z26_70 z26_71 z26_72 z26_73 z26_74 z26_75 z26_76 z26_77 z26_78 z26_79 z26_80 z26_81 z26_82 z26_83 z26_84 z26_85 z26_86 z26_87 z26_88 z26_89 z26_90 z26_91 z26_92 z26_93 z26_94 z26_95 z26_96 z26_97 z26_98; simp only [condP, eq_self, implies_true, and_self, true_and, and_true, true_implies, forall_const, decide_eq_true_eq, decide_eq_false_iff_not, Int.toNat_natCast, dSpan_eSpan, dReach_eReach, dWay_eWay, dStep_eStep, dFar_eFar, dInt_eInt, Nat.zero_add, Int.zero_sub, Nat.le_eq, Nat.succ_eq_add_one, Nat.add_one_le_iff, Bool.not_eq_true', Bool.not_eq_false', rng_length, dSpan_mk, dReach_mk, dWay_mk, dStep_mk, dFar_mk, rng_getD, et, ea, rsI15, rsI11, List.cons_append, List.nil_append, List.append_nil, List.getD_cons_zero, List.getD_cons_succ]
  refine ⟨h1, fun hc => ?a, fun hc => ⟨fun hl => ?b, fun hl => ?c⟩⟩
  case c =>
    have hc : checkL N = 0 := by simpa using hc
    have hl : leastM N ≠ 0 := by simpa using hl
    have hg := good_of hc
    have hg8 := hg.g8
    have hr14 := hg.r14
    have hb : (allL N).length ≤ 6561 := lvAll_bd (lvA0 N) hg8
    have lk : ∀ k, k < (allL N).length → (gD (allL N) k).length = N.g.length := fun k hk => lv_len (lvA0 N) (s := N.g.length) (k := k) hk
    have hrE : rsE N = 0 := by unfold rsE; rw [if_pos hc, if_neg hl]
    have hrT : rsT N = rsK N N.r.length := if_pos hrE
    refine ⟨⟨⟨by omega, by omega, by omega⟩, ⟨0⟩, ⟨nl, Nat.le_refl _, fun j hj => ?n0⟩, hc, hl⟩, fun _ => ⟨⟨rfl, hc, nl, by decide, by decide⟩, ⟨0, rfl, hc, hl, Nat.zero_le _, rfl⟩, fun i hi => ?nil, fun i hi => ?own⟩⟩
    case n0 => rw [nl] at hj; simp [noneL, gD_replicate, hj]
    case nil =>
      obtain ⟨_, _, q1, q2⟩ := hi
      refine ⟨fun hlt => ⟨⟨⟨⟨i, 0⟩, ⟨rfl, rfl, rfl, rfl, rfl⟩, ⟨hc, by simp only; omega, rfl, Nat.zero_le _⟩, q2⟩, fun x ⟨⟨_, x1, x2, x3⟩, x4⟩ => ⟨fun hk => ?st, fun hk => ?ex⟩⟩, ?cw, ?cn⟩, fun hge => ?fin⟩
      case st =>
        obtain ⟨_, b1, b2, _⟩ := hg.r x.i x1
        exact ⟨⟨⟨by omega, hk⟩, ⟨by omega, by omega⟩, ⟨by omega, by rw [lk x.k (by omega)]; omega⟩, ⟨by omega, hk⟩, ⟨by omega, by omega⟩, ⟨by omega, by rw [lk x.k (by omega)]; omega⟩, ⟨by omega, hk⟩, rfl, hc, lk x.k (by omega), nl⟩, fun h => ⟨⟨x.i, x.k + 1⟩, ⟨rfl, by show rsF N x.i (x.k + 1) = _; simp only [rsF]; rw [show (bif rsR N ⟨x.i, x.k⟩ == 0 then decide (pvL N x.k x.i > 0) else false) = true from h]; rfl, (wsucc (by omega)).symm, rfl, rfl⟩, ⟨⟨hc, x1, x2, by simp only; omega⟩, x4⟩, by simp only; omega⟩, fun h => ⟨⟨x.i, x.k + 1⟩, ⟨rfl, by show rsF N x.i (x.k + 1) = _; simp only [rsF]; rw [show (bif rsR N ⟨x.i, x.k⟩ == 0 then decide (pvL N x.k x.i > 0) else false) = false from h]; rfl, (wsucc (by omega)).symm, rfl, rfl⟩, ⟨⟨hc, x1, x2, by simp only; omega⟩, x4⟩, by simp only; omega⟩⟩
      case ex =>
        obtain ⟨xi, xk⟩ := x
        simp only at x1 x2 x3 x4 hk ⊢
        have hx : xk = (allL N).length := by omega
        subst hx
        refine ⟨fun h => ?_, fun h => ⟨xi, rfl, ⟨hc, x1, x2⟩, by rw [rsK_no (by rw [rsB_eq]; exact h)]; exact x4⟩⟩
        have e : rsK N (xi + 1) = [(xi : Int)] := by rw [rsK_yes (by rw [rsB_eq]; exact h), x4]; rfl
        refine ⟨⟨fun h => absurd h (by decide), by decide, by decide, by decide, by decide⟩, ⟨xi, ⟨by rw [e]; rfl, rfl, by rw [e]; rfl, fun j hj => ?_⟩, hc, x1, x2⟩⟩
        rw [e] at hj ⊢
        have : j = 0 := by simpa using hj
        subst this; rfl
      case cw =>
        intro j ⟨_, j1, j2⟩
        exact ⟨j + 1, ⟨rfl, (wsucc (by omega)).symm, rfl, fun _ _ => rfl⟩, ⟨hc, hl, by omega⟩, by omega⟩
      case cn =>
        intro j ⟨⟨_, j1, j2⟩, j3⟩
        exact ⟨j + 1, (wsucc (by omega)).symm, ⟨hc, hl, by omega, j3⟩, by omega⟩
      case fin =>
        have hx : i = N.r.length := by omega
        rw [hrT, hrE, ← hx, q2]; exact ⟨rfl, rfl, rfl⟩
    case own =>
      obtain ⟨_, _, q1⟩ := hi
      refine ⟨fun hlt => ⟨⟨⟨⟨i, 0⟩, ⟨rfl, rfl, rfl, rfl, rfl, fun _ _ => rfl, rfl, rfl⟩, hc, by simp only; omega, rfl, Nat.zero_le _⟩, fun x ⟨_, x1, x2, x3⟩ => ⟨fun hk => ?st, fun hk => ?ex⟩⟩, ?cw⟩, fun hge => ?fin⟩
      case st =>
        obtain ⟨_, b1, b2, _⟩ := hg.r x.i x1
        exact ⟨⟨⟨by omega, hk⟩, ⟨by omega, by omega⟩, ⟨by omega, by rw [lk x.k (by omega)]; omega⟩, ⟨by omega, hk⟩, ⟨by omega, by omega⟩, ⟨by omega, by rw [lk x.k (by omega)]; omega⟩, ⟨by omega, hk⟩, rfl, hc, lk x.k (by omega), nl⟩, fun h => ⟨⟨x.i, x.k + 1⟩, ⟨rfl, rfl, by show rsF N x.i (x.k + 1) = _; simp only [rsF]; rw [show (bif rsR N ⟨x.i, x.k⟩ == 0 then decide (pvL N x.k x.i > 0) else false) = true from h]; rfl, (wsucc (by omega)).symm, rfl, fun _ _ => rfl, rfl, rfl⟩, ⟨hc, x1, x2, by simp only; omega⟩, by simp only; omega⟩, fun h => ⟨⟨x.i, x.k + 1⟩, ⟨rfl, rfl, by show rsF N x.i (x.k + 1) = _; simp only [rsF]; rw [show (bif rsR N ⟨x.i, x.k⟩ == 0 then decide (pvL N x.k x.i > 0) else false) = false from h]; rfl, (wsucc (by omega)).symm, rfl, fun _ _ => rfl, rfl, rfl⟩, ⟨hc, x1, x2, by simp only; omega⟩, by simp only; omega⟩⟩
      case ex =>
        obtain ⟨xi, xk⟩ := x
        simp only at x1 x2 x3 hk ⊢
        have hx : xk = (allL N).length := by omega
        subst hx
        have hlen := rsK_len N xi
        refine ⟨fun h => ?_, fun h => ?_⟩
        · have e := rsK_yes (N := N) (i := xi) (by rw [rsB_eq]; exact h)
          have el : (rsK N (xi + 1)).length = (rsK N xi).length + 1 := by rw [e]; simp
          refine ⟨⟨by omega, fun h => absurd h (by decide), by omega, by omega⟩, ⟨xi, ⟨el, rfl, el, fun j hj => ?_⟩, hc, x1, x2⟩⟩
          rw [el] at hj
          rw [e, gD_append]
          by_cases h0 : j < (rsK N xi).length
          · rw [if_pos h0, decide_eq_true h0]; rfl
          · have : j - (rsK N xi).length = 0 := by omega
            rw [if_neg h0, decide_eq_false h0, this]; rfl
        · have e := rsK_no (N := N) (i := xi) (by rw [rsB_eq]; exact h)
          exact ⟨xi, ⟨by rw [e], rfl, by rw [e], fun j _ => by rw [e]⟩, hc, x1, x2⟩
      case cw =>
        intro j ⟨_, j1, j2⟩
        exact ⟨j + 1, ⟨rfl, (wsucc (by omega)).symm, rfl, fun _ _ => rfl⟩, ⟨hc, hl, by omega⟩, by omega⟩
      case fin =>
        have hx : i = N.r.length := by omega
        rw [hrT, hrE, ← hx]; exact ⟨rfl, Nat.le_refl _, fun _ _ => rfl, rfl⟩
  case a =>
    have hc : checkL N ≠ 0 := by simpa using hc
    have e : rsE N = checkL N := if_neg hc
    have e2 : rsT N = [] := if_neg (by rw [e]; exact hc)
    rw [e2, e]; exact ⟨rfl, rfl, rfl⟩
  case b =>
    have hc : checkL N = 0 := by simpa using hc
    have hl : leastM N = 0 := by simpa using hl
    have e : rsE N = 8 := by unfold rsE; rw [if_pos hc, if_pos hl]
    have e2 : rsT N = [] := if_neg (by rw [e]; decide)
    rw [e2, e]; exact ⟨rfl, rfl, rfl⟩
theorem ok26 : SpecOk Try.prog 26 (C26.spec dN) := okC C26 A26 [] [204] Try.func26 (fun _ => by kernel_rfl) (fun _ => gok_cons ok18 (gok_cons ok53 (gok_cons ok54 (gok_cons ok71 gok_nil)))) (fun a h => p26 a h) (fun _ => noI rfl rfl) _
end Go.Bal
