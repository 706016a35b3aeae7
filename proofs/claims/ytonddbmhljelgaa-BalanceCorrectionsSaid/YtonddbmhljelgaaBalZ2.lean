/- Balanced of the reference; Balanced, Holds, Cost of both. -/
import Derived.Test.YtonddbmhljelgaaBalZ
set_option linter.unusedVariables false
set_option linter.unusedSimpArgs false
namespace Go.Bal
open Go Go.Sym Go.Proofs
def balL (N : NetL) (T : TruthL) : List Int := if askM N T = 0 then unbM N T else []
structure SIX where
  s : Nat
  i : Nat
  x : Int
  deriving Inhabited
def rbO (a : NT) : List (Nat × HCell) := [(200, begO a.N), (201, truO a.T)]
def rbS (v : AVal) (s : Nat) : List (Nat × AVal) := [(2, .bptr 200 0), (3, .bptr 201 0), (7, v), (8, .int s)]
def rbR (a : NT) (s : Nat) : List (Nat × HCell) := [(203, rowL (unbK a.N a.T s).length (unbK a.N a.T s))]
def rbOk (a : NT) : Prop := askM a.N a.T = 0
def rbB (a : NT) (ag : List (Nat × Nat)) : Shape := { α := Nat, dflt := 0, T := fun s => ⟨rbS (.own 203 1 0 (unbK a.N a.T s).length) s, rbO a ++ rbR a s⟩, inv := fun s => rbOk a ∧ s ≤ a.N.g.length, meas := fun s => a.N.g.length - s, again := ag }
def rbInv (a : NT) (gs : List Nat) (s : SIX) : Prop := rbOk a ∧ s.s < a.N.g.length ∧ a.N.g.length - s.s = gs.headD 0 ∧ s.i ≤ a.N.r.length ∧ balF s.s s.x (a.N.r.drop s.i) (a.T.f.drop s.i) = balAt a.N a.T s.s
def A47 (a : NT) : Ann := { ann 73 [(83, C78.spec d78)] with mt := fun id => id == 17, inner := fun gs id => if id = 6 then some [{ α := Nat, dflt := 0, T := fun s => ⟨rbS (.d nilL) s, rbO a⟩, inv := fun s => rbOk a ∧ s ≤ a.N.g.length ∧ unbK a.N a.T s = [], meas := fun s => a.N.g.length - s, first := [(200, 1000), (201, 1016)] }, rbB a [(203, 18048)], rbB a []] else if id = 10 then some [{ α := SIX, dflt := default, T := fun s => ⟨rbS (.d nilL) s.s ++ [(9, .int s.x), (10, .int s.i)], rbO a⟩, inv := fun s => rbInv a gs s ∧ unbK a.N a.T s.s = [], meas := fun s => a.N.r.length - s.i }, { α := SIX, dflt := default, T := fun s => ⟨rbS (.own 203 1 0 (unbK a.N a.T s.s).length) s.s ++ [(9, .int s.x), (10, .int s.i)], rbO a ++ rbR a s.s⟩, inv := fun s => rbInv a gs s, meas := fun s => a.N.r.length - s.i }] else none }
def xsNT (a : NT) : List AVal := [.d (eNetL a.N), .d (eTruthL a.T)]
def C47 : Ctr := { α := NT, xs := xsNT, L := fun _ => [], val := fun a => .tup [.d (eIntsL (balL a.N a.T)), .int (askM a.N a.T)], keep := fun _ => [], pre := fun a => [sizeN a.N, sizeT a.T] }
def V47 (a : NT) : Prop := fnVC Try.prog (A47 a) Try.f47 (bodyOf Try.f47) (C47.xs a) (heapOf []) (C47.val a) [] [] [203]
abbrev z47_0 (a : NT) : List Span := rng a.N.g.length fun (i : Nat) => gD a.N.g i
abbrev z47_1 (a : NT) : Nat := (z47_0 a).length
abbrev z47_2 (a : NT) (i : Nat) : Span := gD (z47_0 a) i
abbrev z47_3 (a : NT) : List Reach := rng a.N.r.length fun (i : Nat) => gD a.N.r i
abbrev z47_4 (a : NT) : Nat := (z47_3 a).length
abbrev z47_5 (a : NT) (i : Nat) : Reach := gD (z47_3 a) i
abbrev z47_6 (a : NT) (i : Nat) : Span := (z47_5 a i).sp
abbrev z47_7 (a : NT) : List Int := rng a.T.f.length fun (i : Nat) => gD a.T.f i
abbrev z47_8 (a : NT) : Nat := (z47_7 a).length
abbrev z47_9 (a : NT) : List Int := rng a.T.t.length fun (i : Nat) => gD a.T.t i
abbrev z47_10 (a : NT) : Nat := (z47_9 a).length
abbrev z47_11 (a : NT) : Int := askM (NetL.mk (z47_0 a) (z47_3 a)) (TruthL.mk (z47_7 a) (z47_9 a))
abbrev z47_12 (a : NT) : Prop := (balL a.N a.T).length = 0
abbrev z47_13 : Prop := 0 = 0
abbrev z47_14 : Prop := ∀ (i : Nat), i < 0 → false = false
abbrev z47_15 (a : NT) : Prop := a.N.g.length = a.N.g.length
abbrev z47_16 (a : NT) : Prop := ∀ (i : Nat), i < a.N.g.length → (gD a.N.g i).lo = (gD a.N.g i).lo ∧ (gD a.N.g i).hi = (gD a.N.g i).hi
abbrev z47_17 (a : NT) : Prop := a.N.r.length = a.N.r.length
abbrev z47_18 (a : NT) : Prop := ∀ (i : Nat), i < a.N.r.length → (gD a.N.r i).fr = (gD a.N.r i).fr ∧ (gD a.N.r i).to = (gD a.N.r i).to ∧ (gD a.N.r i).sp.lo = (gD a.N.r i).sp.lo ∧ (gD a.N.r i).sp.hi = (gD a.N.r i).sp.hi
abbrev z47_19 (a : NT) : Prop := a.T.f.length = a.T.f.length
abbrev z47_20 (a : NT) : Prop := ∀ (i : Nat), i < a.T.f.length → gD a.T.f i = gD a.T.f i
abbrev z47_21 (a : NT) : Prop := a.T.t.length = a.T.t.length
abbrev z47_22 (a : NT) : Prop := ∀ (i : Nat), i < a.T.t.length → gD a.T.t i = gD a.T.t i
abbrev z47_23 (a : NT) : Prop := z47_15 a ∧ z47_16 a ∧ z47_17 a ∧ z47_18 a ∧ z47_19 a ∧ z47_20 a ∧ z47_21 a ∧ z47_22 a
abbrev z47_24 (a : NT) : Prop := askM a.N a.T = 0
abbrev z47_25 (a : NT) (a1 : Nat) : Prop := z47_24 a ∧ a1 ≤ a.N.g.length ∧ unbK a.N a.T a1 = []
abbrev z47_26 (a : Nat) (a1 : NT) : Bool := decide ((↑a : Int) < (↑a1.N.g.length : Int))
abbrev z47_27 (a : Nat) (a1 : NT) : Prop := 0 ≤ (↑a : Int) ∧ (↑a : Int) < (↑a1.T.t.length : Int)
abbrev z47_28 (a : SIX) (a1 : Nat) : Prop := (↑a.s : Int) = (↑a1 : Int)
abbrev z47_29 (a : SIX) (a1 : NT) (a2 : Nat) : Prop := a.x = gD a1.T.t a2
abbrev z47_30 (a : SIX) : Prop := (↑a.i : Int) = 0
abbrev z47_31 (a : SIX) (a1 : NT) : Prop := a.s < a1.N.g.length
abbrev z47_32 (a : NT) (a1 : SIX) : Nat := a.N.g.length - a1.s
abbrev z47_33 (a : NT) (a1 : Nat) : Nat := a.N.g.length - a1
abbrev z47_34 (a : SIX) (a1 : NT) : Prop := a.i ≤ a1.N.r.length ∧ balF (↑a.s : Int) a.x (List.drop a.i a1.N.r) (List.drop a.i a1.T.f) = balAt a1.N a1.T a.s
abbrev z47_35 (a : NT) (a1 : SIX) (a2 : Nat) : Prop := z47_24 a ∧ z47_31 a1 a ∧ z47_32 a a1 = [z47_33 a a2].headD 0 ∧ z47_34 a1 a
abbrev z47_36 (a : NT) (a1 : SIX) : Prop := unbK a.N a.T a1.s = []
abbrev z47_37 (a : NT) (a1 : SIX) (a2 : Nat) : Prop := z47_35 a a1 a2 ∧ z47_36 a a1
abbrev z47_38 (a : SIX) (a1 : NT) : Prop := (↑a.i : Int) < (↑a1.N.r.length : Int)
abbrev z47_39 (a : SIX) (a1 : NT) : Bool := decide (z47_38 a a1)
abbrev z47_40 (a : SIX) : Prop := 0 ≤ (↑a.i : Int)
abbrev z47_41 (a : SIX) (a1 : NT) : Prop := z47_40 a ∧ z47_38 a a1
abbrev z47_42 (a : NT) (a1 : SIX) : Bool := (gD a.N.r a1.i).to == (↑a1.s : Int)
abbrev z47_43 (a : SIX) (a1 : NT) : Prop := z47_40 a ∧ (↑a.i : Int) < (↑a1.T.f.length : Int)
abbrev z47_44 (a : NT) (a1 : SIX) : Bool := (gD a.N.r a1.i).fr == (↑a1.s : Int)
abbrev z47_45 (a : SIX) (a1 : SIX) : Prop := (↑a.s : Int) = (↑a1.s : Int)
abbrev z47_46 (a : SIX) (a1 : NT) : Int := IntKind.i64.wrap (a.x + gD a1.T.f a.i)
abbrev z47_47 (a : SIX) (a1 : SIX) (a2 : NT) : Prop := a.x = IntKind.i64.wrap (z47_46 a1 a2 - gD a2.T.f a1.i)
abbrev z47_48 (a : SIX) (a1 : SIX) : Prop := (↑a.i : Int) = IntKind.i64.wrap ((↑a1.i : Int) + 1)
abbrev z47_49 (a : SIX) (a1 : SIX) (a2 : NT) : Prop := z47_48 a a1 ∧ z47_23 a2
abbrev z47_50 (a : SIX) (a1 : SIX) (a2 : NT) : Prop := z47_13 ∧ z47_14 ∧ z47_45 a a1 ∧ z47_47 a a1 a2 ∧ z47_49 a a1 a2
abbrev z47_51 (a : NT) (a1 : SIX) : Nat := a.N.r.length - a1.i
abbrev z47_52 (a : NT) (a1 : SIX) (a2 : SIX) : Prop := z47_51 a a1 < z47_51 a a2
abbrev z47_53 (a : NT) (a1 : SIX) (a2 : Nat) (a3 : SIX) : Prop := z47_37 a a1 a2 ∧ z47_52 a a1 a3
abbrev z47_54 (a : SIX) (a1 : SIX) (a2 : NT) : Prop := a.x = z47_46 a1 a2
abbrev z47_55 (a : SIX) (a1 : SIX) (a2 : NT) : Prop := z47_13 ∧ z47_14 ∧ z47_45 a a1 ∧ z47_54 a a1 a2 ∧ z47_49 a a1 a2
abbrev z47_56 (a : SIX) (a1 : SIX) (a2 : NT) : Prop := a.x = IntKind.i64.wrap (a1.x - gD a2.T.f a1.i)
abbrev z47_57 (a : SIX) (a1 : SIX) (a2 : NT) : Prop := z47_13 ∧ z47_14 ∧ z47_45 a a1 ∧ z47_56 a a1 a2 ∧ z47_49 a a1 a2
abbrev z47_58 (a : SIX) (a1 : SIX) (a2 : NT) : Prop := z47_13 ∧ z47_14 ∧ z47_45 a a1 ∧ a.x = a1.x ∧ z47_49 a a1 a2
abbrev z47_59 (a : SIX) : Bool := a.x != 0
abbrev z47_60 : Prop := 0 < 1
abbrev z47_61 : Prop := 1 = 1
abbrev z47_62 : Prop := 1 ≤ 1 ∧ (z47_60 → z47_61)
abbrev z47_63 : Prop := (True ∧ (0 < 0 → 0 = 1)) ∧ z47_62 ∧ (true = true → z47_60) ∧ 1 ≤ 9223372036854775807 ∧ 8 ≤ 140737488355328
abbrev z47_64 (a : NT) (a1 : Nat) : Prop := (unbK a.N a.T a1).length = 1
abbrev z47_65 (a : Nat) (a1 : SIX) : Prop := (↑a : Int) = IntKind.i64.wrap ((↑a1.s : Int) + 1)
abbrev z47_66 (i : Nat) (a : NT) (a1 : Nat) : Prop := i < (unbK a.N a.T a1).length
abbrev z47_67 (a : NT) (a1 : Nat) (i : Nat) : Int := gD (unbK a.N a.T a1) i
abbrev z47_68 (a : NT) (a1 : Nat) (a2 : SIX) : Prop := z47_13 ∧ z47_64 a a1 ∧ z47_65 a1 a2 ∧ z47_15 a ∧ z47_16 a ∧ z47_17 a ∧ z47_18 a ∧ z47_19 a ∧ z47_20 a ∧ z47_21 a ∧ z47_22 a ∧ z47_64 a a1 ∧ ∀ (i : Nat), z47_66 i a
 a1 → z47_67 a a1 i = (↑a2.s : Int)
abbrev z47_69 (a : NT) (a1 : Nat) : Prop := z47_24 a ∧ a1 ≤ a.N.g.length
abbrev z47_70 (a : NT) (a1 : Nat) : Nat := (rbB a [(203, 18048)]).meas a1
abbrev z47_71 (a : NT) (a1 : Nat) (a2 : Nat) : Prop := z47_69 a a1 ∧ z47_70 a a1 < z47_33 a a2
abbrev z47_72 (a : Nat) (a1 : SIX) (a2 : NT) : Prop := z47_13 ∧ z47_14 ∧ z47_65 a a1 ∧ z47_23 a2
abbrev z47_73 (a : NT) (a1 : SIX) (a2 : SIX) : Prop := (unbK a.N a.T a1.s).length = (unbK a.N a.T a2.s).length
abbrev z47_74 (i : Nat) (a : NT) (a1 : SIX) : Prop := i < (unbK a.N a.T a1.s).length
abbrev z47_75 (a : NT) (a1 : SIX) (i : Nat) : Int := gD (unbK a.N a.T a1.s) i
abbrev z47_76 (a : SIX) (a1 : SIX) (a2 : NT) : Prop := z47_48 a a1 ∧ z47_15 a2 ∧ z47_16 a2 ∧ z47_17 a2 ∧ z47_18 a2 ∧ z47_19 a2 ∧ z47_20 a2 ∧ z47_21 a2 ∧ z47_22 a2 ∧ z47_73 a2 a a1 ∧ ∀ (i : Nat), z47_74 i a2 a → z47_75 a2
 a i = z47_75 a2 a1 i
abbrev z47_77 (a : NT) (a1 : SIX) (a2 : SIX) : Prop := z47_13 ∧ z47_73 a a1 a2 ∧ z47_45 a1 a2 ∧ z47_47 a1 a2 a ∧ z47_76 a1 a2 a
abbrev z47_78 (a : NT) (a1 : SIX) (a2 : Nat) (a3 : SIX) : Prop := z47_35 a a1 a2 ∧ z47_52 a a1 a3
abbrev z47_79 (a : NT) (a1 : SIX) (a2 : SIX) : Prop := z47_13 ∧ z47_73 a a1 a2 ∧ z47_45 a1 a2 ∧ z47_54 a1 a2 a ∧ z47_76 a1 a2 a
abbrev z47_80 (a : NT) (a1 : SIX) (a2 : SIX) : Prop := z47_13 ∧ z47_73 a a1 a2 ∧ z47_45 a1 a2 ∧ z47_56 a1 a2 a ∧ z47_76 a1 a2 a
abbrev z47_81 (a : NT) (a1 : SIX) (a2 : SIX) : Prop := z47_13 ∧ z47_73 a a1 a2 ∧ z47_45 a1 a2 ∧ a1.x = a2.x ∧ z47_76 a1 a2 a
abbrev z47_82 (a : NT) (a1 : SIX) : Nat := (unbK a.N a.T a1.s).length + 1
abbrev z47_83 (a : NT) (a1 : SIX) : Prop := ((unbK a.N a.T a1.s).length = (unbK a.N a.T a1.s).length ∧ (0 < (unbK a.N a.T a1.s).length → z47_61)) ∧ z47_62 ∧ (false = true → z47_60) ∧ z47_82 a a1 ≤ 9223372036854775807 ∧
 z47_82 a a1 * 8 ≤ 140737488355328
abbrev z47_84 (a : NT) (a1 : Nat) (a2 : SIX) : Prop := (unbK a.N a.T a1).length = z47_82 a a2
abbrev z47_85 (a : NT) (a1 : Nat) (a2 : SIX) : Prop := z47_13 ∧ z47_84 a a1 a2 ∧ z47_65 a1 a2 ∧ z47_15 a ∧ z47_16 a ∧ z47_17 a ∧ z47_18 a ∧ z47_19 a ∧ z47_20 a ∧ z47_21 a ∧ z47_22 a ∧ z47_84 a a1 a2 ∧ ∀ (i : Nat), z47_66
 i a a1 → z47_67 a a1 i = bif decide (z47_74 i a a2) then z47_75 a a2 i else (↑a2.s : Int)
abbrev z47_86 (a : NT) (a1 : Nat) (a2 : SIX) : Prop := (unbK a.N a.T a1).length = (unbK a.N a.T a2.s).length
abbrev z47_87 (a : NT) (a1 : Nat) (a2 : SIX) : Prop := z47_13 ∧ z47_86 a a1 a2 ∧ z47_65 a1 a2 ∧ z47_15 a ∧ z47_16 a ∧ z47_17 a ∧ z47_18 a ∧ z47_19 a ∧ z47_20 a ∧ z47_21 a ∧ z47_22 a ∧ z47_86 a a1 a2 ∧ ∀ (i : Nat), z47_66
 i a a1 → z47_67 a a1 i = z47_75 a a2 i
abbrev z47_88 (a : NT) (a1 : SIX) (a2 : Nat) : Prop := (unbK a.N a.T a1.s).length = (unbK a.N a.T a2).length
abbrev z47_89 (a : NT) (a1 : SIX) (a2 : Nat) : Prop := z47_13 ∧ z47_88 a a1 a2 ∧ z47_28 a1 a2 ∧ z47_29 a1 a a2 ∧ z47_30 a1 ∧ z47_15 a ∧ z47_16 a ∧ z47_17 a ∧ z47_18 a ∧ z47_19 a ∧ z47_20 a ∧ z47_21 a ∧ z47_22 a ∧ z47_88
 a a1 a2 ∧ ∀ (i : Nat), z47_74 i a a1 → z47_75 a a1 i = z47_67 a a2 i
abbrev z47_90 (a : NT) (a1 : SIX) (a2 : Nat) : Prop := z47_24 a ∧ z47_31 a1 a ∧ z47_32 a a1 = [z47_70 a a2].headD 0 ∧ z47_34 a1 a
abbrev z47_91 (a : NT) (a1 : SIX) (a2 : Nat) : Prop := z47_90 a a1 a2 ∧ z47_36 a a1
abbrev z47_92 (a : NT) (a1 : SIX) (a2 : Nat) (a3 : SIX) : Prop := z47_91 a a1 a2 ∧ z47_52 a a1 a3
abbrev z47_93 (a : NT) (a1 : Nat) (a2 : Nat) : Prop := z47_69 a a1 ∧ z47_70 a a1 < z47_70 a a2
abbrev z47_94 (a : NT) (a1 : SIX) (a2 : Nat) (a3 : SIX) : Prop := z47_90 a a1 a2 ∧ z47_52 a a1 a3
abbrev z47_95 (a : NT) (a1 : Nat) : Prop := (balL a.N a.T).length = (unbK a.N a.T a1).length ∧ 0 + (unbK a.N a.T a1).length ≤ (unbK a.N a.T a1).length ∧ (∀ (j : Nat), j < (balL a.N a.T).length → gD (balL a.N a.T) j = gD
 (unbK a.N a.T a1) (0 + j)) ∧ z47_24 a
abbrev z47_96 (a : NT) (a1 : SIX) (a2 : Nat) : Prop := z47_24 a ∧ z47_31 a1 a ∧ z47_32 a a1 = [(rbB a []).meas a2].headD 0 ∧ z47_34 a1 a
abbrev z47_97 (a : NT) (a1 : SIX) (a2 : Nat) : Prop := z47_96 a a1 a2 ∧ z47_36 a a1
abbrev z47_98 (a : NT) (a1 : SIX) (a2 : Nat) (a3 : SIX) : Prop := z47_97 a a1 a2 ∧ z47_52 a a1 a3
abbrev z47_99 (a : NT) (a1 : Nat) (a2 : Nat) : Prop := z47_69 a a1 ∧ z47_70 a a1 < (rbB a []).meas a2
abbrev z47_100 (a : NT) (a1 : SIX) (a2 : Nat) (a3 : SIX) : Prop := z47_96 a a1 a2 ∧ z47_52 a a1 a3
theorem vc47 (a : NT) : (V47 a) = ((z47_1 a = a.N.g.length ∧ (∀ (i : Nat), i < z47_1 a → (z47_2 a i).lo = (gD a.N.g i).lo ∧ (z47_2 a i).hi = (gD a.N.g i).hi) ∧ z47_4 a = a.N.r.length ∧ (∀ (i : Nat), i < z47_4 a → (z47_5
 a i).fr = (gD a.N.r i).fr ∧ (z47_5 a i).to = (gD a.N.r i).to ∧ (z47_6 a i).lo = (gD a.N.r i).sp.lo ∧ (z47_6 a i).hi = (gD a.N.r i).sp.hi) ∧ z47_8 a = a.T.f.length ∧ (∀ (i : Nat), i < z47_8 a → gD (z47_7 a) i = gD a.T.f
 i) ∧ z47_10 a = a.T.t.length ∧ (∀ (i : Nat), i < z47_10 a → gD (z47_9 a) i = gD a.T.t i) ∧ (z47_1 a ≤ 1000000 ∧ z47_4 a ≤ 1000000) ∧ z47_8 a ≤ 1000000 ∧ z47_10 a ≤ 1000000) ∧ bif z47_11 a != 0 then z47_12 a ∧ z47_12 a ∧
 askM a.N a.T = z47_11 a else (∃ (a_1 : Nat), (z47_13 ∧ z47_14 ∧ (↑a_1 : Int) = 0 ∧ z47_23 a) ∧ z47_25 a a_1) ∧ (∀ (a_1 : Nat), z47_25 a a_1 → bif z47_26 a_1 a then z47_27 a_1 a ∧ (∃ (a_3 : SIX), (z47_13 ∧ z47_14 ∧ z47_28
 a_3 a_1 ∧ z47_29 a_3 a a_1 ∧ z47_30 a_3 ∧ z47_23 a) ∧ z47_37 a a_3 a_1) ∧ (∀ (a_3 : SIX), z47_37 a a_3 a_1 → bif z47_39 a_3 a then z47_41 a_3 a ∧ bif z47_42 a a_3 then z47_43 a_3 a ∧ z47_41 a_3 a ∧ bif z47_44 a a_3 then
 z47_43 a_3 a ∧ ∃ (a_5 : SIX), z47_50 a_5 a_3 a ∧ z47_53 a a_5 a_1 a_3 else ∃ (a_5 : SIX), z47_55 a_5 a_3 a ∧ z47_53 a a_5 a_1 a_3 else z47_41 a_3 a ∧ bif z47_44 a a_3 then z47_43 a_3 a ∧ ∃ (a_5 : SIX), z47_57 a_5 a_3 a ∧
 z47_53 a a_5 a_1 a_3 else ∃ (a_5 : SIX), z47_58 a_5 a_3 a ∧ z47_53 a a_5 a_1 a_3 else bif z47_59 a_3 then z47_63 ∧ ∃ (a_5 : Nat), z47_68 a a_5 a_3 ∧ z47_71 a a_5 a_1 else ∃ (a_5 : Nat), z47_72 a_5 a_3 a ∧ z47_25 a a_5 ∧
 z47_33 a a_5 < z47_33 a a_1) ∧ ∀ (a_3 : SIX), z47_35 a a_3 a_1 → bif z47_39 a_3 a then z47_41 a_3 a ∧ bif z47_42 a a_3 then z47_43 a_3 a ∧ z47_41 a_3 a ∧ bif z47_44 a a_3 then z47_43 a_3 a ∧ ∃ (a_5 : SIX), z47_77 a a_5
 a_3 ∧ z47_78 a a_5 a_1 a_3 else ∃ (a_5 : SIX), z47_79 a a_5 a_3 ∧ z47_78 a a_5 a_1 a_3 else z47_41 a_3 a ∧ bif z47_44 a a_3 then z47_43 a_3 a ∧ ∃ (a_5 : SIX), z47_80 a a_5 a_3 ∧ z47_78 a a_5 a_1 a_3 else ∃ (a_5 : SIX),
 z47_81 a a_5 a_3 ∧ z47_78 a a_5 a_1 a_3 else bif z47_59 a_3 then z47_83 a a_3 ∧ ∃ (a_5 : Nat), z47_85 a a_5 a_3 ∧ z47_71 a a_5 a_1 else ∃ (a_5 : Nat), z47_87 a a_5 a_3 ∧ z47_69 a a_5 ∧ (rbB a []).meas a_5 < z47_33 a a_1
 else z47_12 a ∧ z47_12 a ∧ z47_24 a) ∧ (∀ (a_1 : Nat), z47_69 a a_1 → bif z47_26 a_1 a then z47_27 a_1 a ∧ (∃ (a_3 : SIX), z47_89 a a_3 a_1 ∧ z47_90 a a_3 a_1) ∧ (∀ (a_3 : SIX), z47_91 a a_3 a_1 → bif z47_39 a_3 a then
 z47_41 a_3 a ∧ bif z47_42 a a_3 then z47_43 a_3 a ∧ z47_41 a_3 a ∧ bif z47_44 a a_3 then z47_43 a_3 a ∧ ∃ (a_5 : SIX), z47_50 a_5 a_3 a ∧ z47_92 a a_5 a_1 a_3 else ∃ (a_5 : SIX), z47_55 a_5 a_3 a ∧ z47_92 a a_5 a_1 a_3
 else z47_41 a_3 a ∧ bif z47_44 a a_3 then z47_43 a_3 a ∧ ∃ (a_5 : SIX), z47_57 a_5 a_3 a ∧ z47_92 a a_5 a_1 a_3 else ∃ (a_5 : SIX), z47_58 a_5 a_3 a ∧ z47_92 a a_5 a_1 a_3 else bif z47_59 a_3 then z47_63 ∧ ∃ (a_5 : Nat),
 z47_68 a a_5 a_3 ∧ z47_93 a a_5 a_1 else ∃ (a_5 : Nat), z47_72 a_5 a_3 a ∧ z47_25 a a_5 ∧ z47_33 a a_5 < z47_70 a a_1) ∧ ∀ (a_3 : SIX), z47_90 a a_3 a_1 → bif z47_39 a_3 a then z47_41 a_3 a ∧ bif z47_42 a a_3 then z47_43
 a_3 a ∧ z47_41 a_3 a ∧ bif z47_44 a a_3 then z47_43 a_3 a ∧ ∃ (a_5 : SIX), z47_77 a a_5 a_3 ∧ z47_94 a a_5 a_1 a_3 else ∃ (a_5 : SIX), z47_79 a a_5 a_3 ∧ z47_94 a a_5 a_1 a_3 else z47_41 a_3 a ∧ bif z47_44 a a_3 then
 z47_43 a_3 a ∧ ∃ (a_5 : SIX), z47_80 a a_5 a_3 ∧ z47_94 a a_5 a_1 a_3 else ∃ (a_5 : SIX), z47_81 a a_5 a_3 ∧ z47_94 a a_5 a_1 a_3 else bif z47_59 a_3 then z47_83 a a_3 ∧ ∃ (a_5 : Nat), z47_85 a a_5 a_3 ∧ z47_93 a a_5 a_1
 else ∃ (a_5 : Nat), z47_87 a a_5 a_3 ∧ z47_69 a a_5 ∧ (rbB a []).meas a_5 < z47_70 a a_1 else z47_95 a a_1) ∧ ∀ (a_1 : Nat), z47_69 a a_1 → bif z47_26 a_1 a then z47_27 a_1 a ∧ (∃ (a_3 : SIX), z47_89 a a_3 a_1 ∧ z47_96 a
 a_3 a_1) ∧ (∀ (a_3 : SIX), z47_97 a a_3 a_1 → bif z47_39 a_3 a then z47_41 a_3 a ∧ bif z47_42 a a_3 then z47_43 a_3 a ∧ z47_41 a_3 a ∧ bif z47_44 a a_3 then z47_43 a_3 a ∧ ∃ (a_5 : SIX), z47_50 a_5 a_3 a ∧ z47_98 a a_5
 a_1 a_3 else ∃ (a_5 : SIX), z47_55 a_5 a_3 a ∧ z47_98 a a_5 a_1 a_3 else z47_41 a_3 a ∧ bif z47_44 a a_3 then z47_43 a_3 a ∧ ∃ (a_5 : SIX), z47_57 a_5 a_3 a ∧ z47_98 a a_5 a_1 a_3 else ∃ (a_5 : SIX), z47_58 a_5 a_3 a ∧
 z47_98 a a_5 a_1 a_3 else bif z47_59 a_3 then z47_63 ∧ ∃ (a_5 : Nat), z47_68 a a_5 a_3 ∧ z47_99 a a_5 a_1 else ∃ (a_5 : Nat), z47_72 a_5 a_3 a ∧ z47_25 a a_5 ∧ z47_33 a a_5 < (rbB a []).meas a_1) ∧ ∀ (a_3 : SIX), z47_96
 a a_3 a_1 → bif z47_39 a_3 a then z47_41 a_3 a ∧ bif z47_42 a a_3 then z47_43 a_3 a ∧ z47_41 a_3 a ∧ bif z47_44 a a_3 then z47_43 a_3 a ∧ ∃ (a_5 : SIX), z47_77 a a_5 a_3 ∧ z47_100 a a_5 a_1 a_3 else ∃ (a_5 : SIX), z47_79
 a a_5 a_3 ∧ z47_100 a a_5 a_1 a_3 else z47_41 a_3 a ∧ bif z47_44 a a_3 then z47_43 a_3 a ∧ ∃ (a_5 : SIX), z47_80 a a_5 a_3 ∧ z47_100 a a_5 a_1 a_3 else ∃ (a_5 : SIX), z47_81 a a_5 a_3 ∧ z47_100 a a_5 a_1 a_3 else bif
 z47_59 a_3 then z47_83 a a_3 ∧ ∃ (a_5 : Nat), z47_85 a a_5 a_3 ∧ z47_99 a a_5 a_1 else ∃ (a_5 : Nat), z47_87 a a_5 a_3 ∧ z47_69 a a_5 ∧ (rbB a []).meas a_5 < (rbB a []).meas a_1 else z47_95 a a_1) := by kernel_rfl
theorem rbB_meas (a : NT) (ag : List (Nat × Nat)) (s : Nat) : (rbB a ag).meas s = a.N.g.length - s := rfl
theorem bal_step {s x : Int} {l : List Reach} {m : List Int} {k : Nat} (h1 : k < l.length) (h2 : k < m.length) : balF s x (l.drop k) (m.drop k) = balF s (balS s x (gD l k) (gD m k)) (l.drop (k + 1)) (m.drop (k + 1)) := by
  rw [drop_gD h1, drop_gD h2]; rfl
theorem bal_end {s x : Int} {l : List Reach} {m : List Int} {k : Nat} (h1 : l.length ≤ k) : balF s x (l.drop k) (m.drop k) = x := by
  rw [List.drop_eq_nil_of_le h1]; unfold balF; rfl
theorem p47 (a : NT) (h1 : sizeN a.N) (h2 : sizeT a.T) : V47 a := by
  rw [vc47]; delta z47_0 z47_1 z47_2 z47_3 z47_4 z47_5 z47_6 z47_7 z47_8 z47_9 z47_10 z47_11 z47_12 z47_13 z47_14 z47_15 z47_16 z47_17 z47_18 z47_19 z47_20 z47_21 z47_22 z47_23 z47_24 z47_25 z47_26 z47_27 z47_28 z47_29 z47_30 z47_31 z47_32 z47_33 z47_34 z47_35 z47_36 z47_37 z47_38 z47_39 z47_40 z47_41 z47_42 z47_43 z47_44 z47_45 z47_46 z47_47 z47_48 z47_49 z47_50 z47_51 z47_52 z47_53 z47_54 z47_55 z47_56 z47_57 z47_58 z47_59 z47_60 z47_61 z47_62 z47_63 z47_64 z47_65 z47_66 z47_67 z47_68 z47_69 z47_70 z47_71 z47_72 z47_73 z47_74 z47_75 z47_76 z47_77 z47_78 z47_79 z47_80 z47_81 z47_82 z47_83 z47_84 z47_85 z47_86 z47_87 z47_88 z47_89 z47_90 z47_91 z47_92 z47_93 z47_94 z47_95 z47_96 z47_97 z47_98 z47_99 z47_100; simp only [condP, eq_self, implies_true, and_self, true_and, and_true, true_implies, forall_const, decide_eq_true_eq, decide_eq_false_iff_not, Int.toNat_natCast, dSpan_eSpan, dReach_eReach, dWay_eWay, dStep_eStep, dFar_eFar, dInt_eInt, Nat.zero_add, Int.zero_sub, Nat.le_eq, Nat.succ_eq_add_one, Nat.add_one_le_iff, Bool.not_eq_true', Bool.not_eq_false', rng_length, dSpan_mk, dReach_mk, dWay_mk, dStep_mk, dFar_mk, rng_getD, rbB_meas, List.headD_cons, DL.d1, DL.d2, DL.d7, DL.d8]
  refine ⟨⟨h1, h2⟩, fun he => ?_, fun he => ?_⟩
  · have : askM a.N a.T ≠ 0 := by simpa using he
    unfold balL; rw [if_neg this]; rfl
  have ha : askM a.N a.T = 0 := by simpa using he
  obtain ⟨hc, ⟨e1, e2⟩, _, _⟩ := askM_zero ha
  have hg := good_of hc
  have g8 := hg.g8
  have r14 := hg.r14
  have hbl : balL a.N a.T = unbM a.N a.T := by unfold balL; rw [if_pos ha]
  refine ⟨⟨0, rfl, ha, Nat.zero_le _, rfl⟩, ?LA, ?LB⟩
  case LA =>
    intro k ⟨_, hk, hkn⟩
    refine ⟨fun hlt => ⟨⟨by omega, by omega⟩, ⟨⟨k, 0, gD a.T.t k⟩, ⟨rfl, rfl, rfl⟩, ⟨ha, by show k < _; omega, rfl, Nat.zero_le _, rfl⟩, hkn⟩, ?IA, ?IB⟩, fun hge => ?_⟩
    case IA =>
      intro s ⟨⟨_, hs, hm, hi, hb⟩, hn⟩
      refine ⟨fun hlt => ?_, fun hge => ?_⟩
      · have hk : s.i < a.N.r.length := by omega
        have hk2 : s.i < a.T.f.length := by omega
        obtain ⟨_, _, _, hne⟩ := hg.r s.i hk
        rw [bal_step hk hk2] at hb
        refine ⟨⟨by omega, hlt⟩, fun ht => ⟨⟨by omega, by omega⟩, ⟨by omega, by omega⟩, fun hf => ?_, fun hf => ⟨⟨s.s, s.i + 1, wr (s.x + gD a.T.f s.i)⟩, ⟨rfl, rfl, (wsucc (by omega)).symm⟩, ⟨⟨ha, hs, hm, by show s.i + 1 ≤ _; omega, ?_⟩, hn⟩, by show _ - (s.i + 1) < _; omega⟩⟩, fun ht => ⟨⟨by omega, by omega⟩, fun hf => ⟨⟨by omega, by omega⟩, ⟨s.s, s.i + 1, wr (s.x - gD a.T.f s.i)⟩, ⟨rfl, rfl, (wsucc (by omega)).symm⟩, ⟨⟨ha, hs, hm, by show s.i + 1 ≤ _; omega, ?_⟩, hn⟩, by show _ - (s.i + 1) < _; omega⟩, fun hf => ⟨⟨s.s, s.i + 1, s.x⟩, ⟨rfl, rfl, (wsucc (by omega)).symm⟩, ⟨⟨ha, hs, hm, by show s.i + 1 ≤ _; omega, ?_⟩, hn⟩, by show _ - (s.i + 1) < _; omega⟩⟩⟩
        · have e1 : (gD a.N.r s.i).to = s.s := by simpa using ht
          have e2 : (gD a.N.r s.i).fr = s.s := by simpa using hf
          omega
        · have e1 : (gD a.N.r s.i).to = s.s := by simpa using ht
          have e2 : ¬ (gD a.N.r s.i).fr = s.s := by simpa using hf
          rw [← hb]; unfold balS; rw [if_neg e2, if_pos e1]
        · have e1 : ¬ (gD a.N.r s.i).to = s.s := by simpa using ht
          have e2 : (gD a.N.r s.i).fr = s.s := by simpa using hf
          rw [← hb]; unfold balS; rw [if_pos e2]
        · have e1 : ¬ (gD a.N.r s.i).to = s.s := by simpa using ht
          have e2 : ¬ (gD a.N.r s.i).fr = s.s := by simpa using hf
          rw [← hb]; unfold balS; rw [if_neg e2, if_neg e1]
      · rw [bal_end (by omega)] at hb
        refine ⟨fun hx => ?_, fun hx => ?_⟩
        · have hu : unbB a.N a.T s.s = true := by rw [hb] at hx; unfold unbB; simpa using hx
          have e : unbK a.N a.T (s.s + 1) = [(s.s : Int)] := by rw [unbK_succ, if_pos hu, hn]; rfl
          refine ⟨⟨by decide, by decide, by decide, by decide, by decide⟩, s.s + 1, ⟨by rw [e]; rfl, (wsucc (by omega)).symm, by rw [e]; rfl, fun i hi => ?_⟩, ⟨ha, by omega⟩, by omega⟩
          rw [e] at hi ⊢
          have : i = 0 := by simpa using hi
          subst this; rfl
        · have hu : unbB a.N a.T s.s = false := by rw [hb] at hx; unfold unbB; simpa using hx
          have e : unbK a.N a.T (s.s + 1) = [] := by rw [unbK_succ, hu, hn]; rfl
          exact ⟨s.s + 1, (wsucc (by omega)).symm, ⟨ha, by omega, e⟩, by omega⟩
    case IB =>
      intro s ⟨_, hs, hm, hi, hb⟩
      have hle := unbK_len a.N a.T s.s
      refine ⟨fun hlt => ?_, fun hge => ?_⟩
      · have hk : s.i < a.N.r.length := by omega
        have hk2 : s.i < a.T.f.length := by omega
        obtain ⟨_, _, _, hne⟩ := hg.r s.i hk
        rw [bal_step hk hk2] at hb
        refine ⟨⟨by omega, hlt⟩, fun ht => ⟨⟨by omega, by omega⟩, ⟨by omega, by omega⟩, fun hf => ?_, fun hf => ⟨⟨s.s, s.i + 1, wr (s.x + gD a.T.f s.i)⟩, ⟨rfl, rfl, rfl, (wsucc (by omega)).symm, rfl, fun _ _ => rfl⟩, ⟨ha, hs, hm, by show s.i + 1 ≤ _; omega, ?_⟩, by show _ - (s.i + 1) < _; omega⟩⟩, fun ht => ⟨⟨by omega, by omega⟩, fun hf => ⟨⟨by omega, by omega⟩, ⟨s.s, s.i + 1, wr (s.x - gD a.T.f s.i)⟩, ⟨rfl, rfl, rfl, (wsucc (by omega)).symm, rfl, fun _ _ => rfl⟩, ⟨ha, hs, hm, by show s.i + 1 ≤ _; omega, ?_⟩, by show _ - (s.i + 1) < _; omega⟩, fun hf => ⟨⟨s.s, s.i + 1, s.x⟩, ⟨rfl, rfl, rfl, (wsucc (by omega)).symm, rfl, fun _ _ => rfl⟩, ⟨ha, hs, hm, by show s.i + 1 ≤ _; omega, ?_⟩, by show _ - (s.i + 1) < _; omega⟩⟩⟩
        · have e1 : (gD a.N.r s.i).to = s.s := by simpa using ht
          have e2 : (gD a.N.r s.i).fr = s.s := by simpa using hf
          omega
        · have e1 : (gD a.N.r s.i).to = s.s := by simpa using ht
          have e2 : ¬ (gD a.N.r s.i).fr = s.s := by simpa using hf
          rw [← hb]; unfold balS; rw [if_neg e2, if_pos e1]
        · have e1 : ¬ (gD a.N.r s.i).to = s.s := by simpa using ht
          have e2 : (gD a.N.r s.i).fr = s.s := by simpa using hf
          rw [← hb]; unfold balS; rw [if_pos e2]
        · have e1 : ¬ (gD a.N.r s.i).to = s.s := by simpa using ht
          have e2 : ¬ (gD a.N.r s.i).fr = s.s := by simpa using hf
          rw [← hb]; unfold balS; rw [if_neg e2, if_neg e1]
      · rw [bal_end (by omega)] at hb
        refine ⟨fun hx => ?_, fun hx => ?_⟩
        · have hu : unbB a.N a.T s.s = true := by rw [hb] at hx; unfold unbB; simpa using hx
          have e : unbK a.N a.T (s.s + 1) = unbK a.N a.T s.s ++ [(s.s : Int)] := by rw [unbK_succ, if_pos hu]
          refine ⟨⟨by decide, by decide, by omega, by omega⟩, s.s + 1, ⟨by rw [e]; simp, (wsucc (by omega)).symm, by rw [e]; simp, fun i hi => ?_⟩, ⟨ha, by omega⟩, by omega⟩
          rw [e] at hi ⊢
          rw [gD_append]
          by_cases hi2 : i < (unbK a.N a.T s.s).length
          · simp [hi2]
          · have : i - (unbK a.N a.T s.s).length = 0 := by simp at hi; omega
            simp only [hi2, if_false, decide_false, cond_false, this]; rfl
        · have hu : unbB a.N a.T s.s = false := by rw [hb] at hx; unfold unbB; simpa using hx
          have e : unbK a.N a.T (s.s + 1) = unbK a.N a.T s.s := by rw [unbK_succ, hu]; rfl
          exact ⟨s.s + 1, ⟨by rw [e], (wsucc (by omega)).symm, by rw [e], fun i _ => by rw [e]⟩, ⟨ha, by omega⟩, by omega⟩
    · have : k = a.N.g.length := by omega
      rw [hbl]; unfold unbM; rw [← this, hkn]; exact ⟨rfl, rfl, ha⟩
  case LB =>
    intro k ⟨_, hk⟩
    refine ⟨fun hlt => ⟨⟨by omega, by omega⟩, ⟨⟨k, 0, gD a.T.t k⟩, ⟨rfl, rfl, rfl, rfl, rfl, fun _ _ => rfl⟩, ha, by show k < _; omega, rfl, Nat.zero_le _, rfl⟩, ?IA, ?IB⟩, fun hge => ?_⟩
    case IA =>
      intro s ⟨⟨_, hs, hm, hi, hb⟩, hn⟩
      refine ⟨fun hlt => ?_, fun hge => ?_⟩
      · have hk : s.i < a.N.r.length := by omega
        have hk2 : s.i < a.T.f.length := by omega
        obtain ⟨_, _, _, hne⟩ := hg.r s.i hk
        rw [bal_step hk hk2] at hb
        refine ⟨⟨by omega, hlt⟩, fun ht => ⟨⟨by omega, by omega⟩, ⟨by omega, by omega⟩, fun hf => ?_, fun hf => ⟨⟨s.s, s.i + 1, wr (s.x + gD a.T.f s.i)⟩, ⟨rfl, rfl, (wsucc (by omega)).symm⟩, ⟨⟨ha, hs, hm, by show s.i + 1 ≤ _; omega, ?_⟩, hn⟩, by show _ - (s.i + 1) < _; omega⟩⟩, fun ht => ⟨⟨by omega, by omega⟩, fun hf => ⟨⟨by omega, by omega⟩, ⟨s.s, s.i + 1, wr (s.x - gD a.T.f s.i)⟩, ⟨rfl, rfl, (wsucc (by omega)).symm⟩, ⟨⟨ha, hs, hm, by show s.i + 1 ≤ _; omega, ?_⟩, hn⟩, by show _ - (s.i + 1) < _; omega⟩, fun hf => ⟨⟨s.s, s.i + 1, s.x⟩, ⟨rfl, rfl, (wsucc (by omega)).symm⟩, ⟨⟨ha, hs, hm, by show s.i + 1 ≤ _; omega, ?_⟩, hn⟩, by show _ - (s.i + 1) < _; omega⟩⟩⟩
        · have e1 : (gD a.N.r s.i).to = s.s := by simpa using ht
          have e2 : (gD a.N.r s.i).fr = s.s := by simpa using hf
          omega
        · have e1 : (gD a.N.r s.i).to = s.s := by simpa using ht
          have e2 : ¬ (gD a.N.r s.i).fr = s.s := by simpa using hf
          rw [← hb]; unfold balS; rw [if_neg e2, if_pos e1]
        · have e1 : ¬ (gD a.N.r s.i).to = s.s := by simpa using ht
          have e2 : (gD a.N.r s.i).fr = s.s := by simpa using hf
          rw [← hb]; unfold balS; rw [if_pos e2]
        · have e1 : ¬ (gD a.N.r s.i).to = s.s := by simpa using ht
          have e2 : ¬ (gD a.N.r s.i).fr = s.s := by simpa using hf
          rw [← hb]; unfold balS; rw [if_neg e2, if_neg e1]
      · rw [bal_end (by omega)] at hb
        refine ⟨fun hx => ?_, fun hx => ?_⟩
        · have hu : unbB a.N a.T s.s = true := by rw [hb] at hx; unfold unbB; simpa using hx
          have e : unbK a.N a.T (s.s + 1) = [(s.s : Int)] := by rw [unbK_succ, if_pos hu, hn]; rfl
          refine ⟨⟨by decide, by decide, by decide, by decide, by decide⟩, s.s + 1, ⟨by rw [e]; rfl, (wsucc (by omega)).symm, by rw [e]; rfl, fun i hi => ?_⟩, ⟨ha, by omega⟩, by omega⟩
          rw [e] at hi ⊢
          have : i = 0 := by simpa using hi
          subst this; rfl
        · have hu : unbB a.N a.T s.s = false := by rw [hb] at hx; unfold unbB; simpa using hx
          have e : unbK a.N a.T (s.s + 1) = [] := by rw [unbK_succ, hu, hn]; rfl
          exact ⟨s.s + 1, (wsucc (by omega)).symm, ⟨ha, by omega, e⟩, by omega⟩
    case IB =>
      intro s ⟨_, hs, hm, hi, hb⟩
      have hle := unbK_len a.N a.T s.s
      refine ⟨fun hlt => ?_, fun hge => ?_⟩
      · have hk : s.i < a.N.r.length := by omega
        have hk2 : s.i < a.T.f.length := by omega
        obtain ⟨_, _, _, hne⟩ := hg.r s.i hk
        rw [bal_step hk hk2] at hb
        refine ⟨⟨by omega, hlt⟩, fun ht => ⟨⟨by omega, by omega⟩, ⟨by omega, by omega⟩, fun hf => ?_, fun hf => ⟨⟨s.s, s.i + 1, wr (s.x + gD a.T.f s.i)⟩, ⟨rfl, rfl, rfl, (wsucc (by omega)).symm, rfl, fun _ _ => rfl⟩, ⟨ha, hs, hm, by show s.i + 1 ≤ _; omega, ?_⟩, by show _ - (s.i + 1) < _; omega⟩⟩, fun ht => ⟨⟨by omega, by omega⟩, fun hf => ⟨⟨by omega, by omega⟩, ⟨s.s, s.i + 1, wr (s.x - gD a.T.f s.i)⟩, ⟨rfl, rfl, rfl, (wsucc (by omega)).symm, rfl, fun _ _ => rfl⟩, ⟨ha, hs, hm, by show s.i + 1 ≤ _; omega, ?_⟩, by show _ - (s.i + 1) < _; omega⟩, fun hf => ⟨⟨s.s, s.i + 1, s.x⟩, ⟨rfl, rfl, rfl, (wsucc (by omega)).symm, rfl, fun _ _ => rfl⟩, ⟨ha, hs, hm, by show s.i + 1 ≤ _; omega, ?_⟩, by show _ - (s.i + 1) < _; omega⟩⟩⟩
        · have e1 : (gD a.N.r s.i).to = s.s := by simpa using ht
          have e2 : (gD a.N.r s.i).fr = s.s := by simpa using hf
          omega
        · have e1 : (gD a.N.r s.i).to = s.s := by simpa using ht
          have e2 : ¬ (gD a.N.r s.i).fr = s.s := by simpa using hf
          rw [← hb]; unfold balS; rw [if_neg e2, if_pos e1]
        · have e1 : ¬ (gD a.N.r s.i).to = s.s := by simpa using ht
          have e2 : (gD a.N.r s.i).fr = s.s := by simpa using hf
          rw [← hb]; unfold balS; rw [if_pos e2]
        · have e1 : ¬ (gD a.N.r s.i).to = s.s := by simpa using ht
          have e2 : ¬ (gD a.N.r s.i).fr = s.s := by simpa using hf
          rw [← hb]; unfold balS; rw [if_neg e2, if_neg e1]
      · rw [bal_end (by omega)] at hb
        refine ⟨fun hx => ?_, fun hx => ?_⟩
        · have hu : unbB a.N a.T s.s = true := by rw [hb] at hx; unfold unbB; simpa using hx
          have e : unbK a.N a.T (s.s + 1) = unbK a.N a.T s.s ++ [(s.s : Int)] := by rw [unbK_succ, if_pos hu]
          refine ⟨⟨by decide, by decide, by omega, by omega⟩, s.s + 1, ⟨by rw [e]; simp, (wsucc (by omega)).symm, by rw [e]; simp, fun i hi => ?_⟩, ⟨ha, by omega⟩, by omega⟩
          rw [e] at hi ⊢
          rw [gD_append]
          by_cases hi2 : i < (unbK a.N a.T s.s).length
          · simp [hi2]
          · have : i - (unbK a.N a.T s.s).length = 0 := by simp at hi; omega
            simp only [hi2, if_false, decide_false, cond_false, this]; rfl
        · have hu : unbB a.N a.T s.s = false := by rw [hb] at hx; unfold unbB; simpa using hx
          have e : unbK a.N a.T (s.s + 1) = unbK a.N a.T s.s := by rw [unbK_succ, hu]; rfl
          exact ⟨s.s + 1, ⟨by rw [e], (wsucc (by omega)).symm, by rw [e], fun i _ => by rw [e]⟩, ⟨ha, by omega⟩, by omega⟩
    · have : k = a.N.g.length := by omega
      rw [hbl]; unfold unbM; rw [← this]
      exact ⟨rfl, Nat.le_refl _, fun _ _ => rfl, ha⟩
theorem ok47 : SpecOk Try.prog 47 (C47.spec d78) := okC C47 A47 [] [203] Try.func47 (fun _ => by kernel_rfl) (fun _ => gok_cons ok83 gok_nil) (fun a h => p47 a h.1 h.2) (fun _ => noI rfl rfl) _
def costE (N : NetL) (T : TruthL) : Int := if askM N T = 0 then if (unbM N T).length = 0 then 0 else 7 else askM N T
def costV (N : NetL) (T : TruthL) : Int := if costE N T = 0 then costM N T else 0
def C42 : Ctr := { C47 with val := fun (a : NT) => .tup [.int (costV a.N a.T), .int (costE a.N a.T)] }
def d42 : List AVal → Heap → Option (C42.α × List (Nat × Nat) × List Nat) := d78
def A22 := ann 23 [(47, C47.spec d78), (59, C59.spec d78)]
def V22 (a : NT) : Prop := fnVC Try.prog A22 Try.f22 (bodyOf Try.f22) (C42.xs a) (heapOf []) (C42.val a) [] [] []
abbrev z22_0 (a : NT) : List Span := rng a.N.g.length fun (i : Nat) => gD a.N.g i
abbrev z22_1 (a : NT) : Nat := (z22_0 a).length
abbrev z22_2 (a : NT) : Prop := z22_1 a = a.N.g.length
abbrev z22_3 (a : NT) (i : Nat) : Span := gD (z22_0 a) i
abbrev z22_4 (a : NT) : Prop := ∀ (i : Nat), i < z22_1 a → (z22_3 a i).lo = (gD a.N.g i).lo ∧ (z22_3 a i).hi = (gD a.N.g i).hi
abbrev z22_5 (a : NT) : List Reach := rng a.N.r.length fun (i : Nat) => gD a.N.r i
abbrev z22_6 (a : NT) : Nat := (z22_5 a).length
abbrev z22_7 (a : NT) : Prop := z22_6 a = a.N.r.length
abbrev z22_8 (a : NT) (i : Nat) : Reach := gD (z22_5 a) i
abbrev z22_9 (a : NT) (i : Nat) : Span := (z22_8 a i).sp
abbrev z22_10 (a : NT) : Prop := ∀ (i : Nat), i < z22_6 a → (z22_8 a i).fr = (gD a.N.r i).fr ∧ (z22_8 a i).to = (gD a.N.r i).to ∧ (z22_9 a i).lo = (gD a.N.r i).sp.lo ∧ (z22_9 a i).hi = (gD a.N.r i).sp.hi
abbrev z22_11 (a : NT) : List Int := rng a.T.f.length fun (i : Nat) => gD a.T.f i
abbrev z22_12 (a : NT) : Nat := (z22_11 a).length
abbrev z22_13 (a : NT) : Prop := z22_12 a = a.T.f.length
abbrev z22_14 (a : NT) : Prop := ∀ (i : Nat), i < z22_12 a → gD (z22_11 a) i = gD a.T.f i
abbrev z22_15 (a : NT) : List Int := rng a.T.t.length fun (i : Nat) => gD a.T.t i
abbrev z22_16 (a : NT) : Nat := (z22_15 a).length
abbrev z22_17 (a : NT) : Prop := z22_16 a = a.T.t.length
abbrev z22_18 (a : NT) : Prop := ∀ (i : Nat), i < z22_16 a → gD (z22_15 a) i = gD a.T.t i
abbrev z22_19 (a : NT) : NetL := NetL.mk (z22_0 a) (z22_5 a)
abbrev z22_20 (a : NT) : TruthL := TruthL.mk (z22_11 a) (z22_15 a)
abbrev z22_21 (a : NT) : Int := askM (z22_19 a) (z22_20 a)
abbrev z22_22 (a : NT) : Prop := costV a.N a.T = 0
theorem vc22 (a : NT) : (V22 a) = ((z22_2 a ∧ z22_4 a ∧ z22_7 a ∧ z22_10 a ∧ z22_13 a ∧ z22_14 a ∧ z22_17 a ∧ z22_18 a ∧ (z22_1 a ≤ 1000000 ∧ z22_6 a ≤ 1000000) ∧ z22_12 a ≤ 1000000 ∧ z22_16 a ≤ 1000000) ∧ bif z22_21 a
 != 0 then z22_22 a ∧ costE a.N a.T = z22_21 a else bif decide ((↑(balL (z22_19 a) (z22_20 a)).length : Int) > 0) then z22_22 a ∧ costE a.N a.T = 7 else (z22_2 a ∧ z22_4 a ∧ z22_7 a ∧ z22_10 a ∧ z22_13 a ∧ z22_14 a ∧
 z22_17 a ∧ z22_18 a ∧ z22_21 a = 0) ∧ costV a.N a.T = costM (z22_19 a) (z22_20 a) ∧ costE a.N a.T = 0) := by kernel_rfl
theorem p22 (a : NT) (h1 : sizeN a.N) (h2 : sizeT a.T) : V22 a := by
  rw [vc22]; delta z22_0 z22_1 z22_2 z22_3 z22_4 z22_5 z22_6 z22_7 z22_8 z22_9 z22_10 z22_11 z22_12 z22_13 z22_14 z22_15 z22_16 z22_17 z22_18 z22_19 z22_20 z22_21 z22_22; simp only [condP, eq_self, implies_true, and_self, true_and, and_true, true_implies, forall_const, decide_eq_true_eq, decide_eq_false_iff_not, Int.toNat_natCast, dSpan_eSpan, dReach_eReach, dWay_eWay, dStep_eStep, dFar_eFar, dInt_eInt, Nat.zero_add, Int.zero_sub, Nat.le_eq, Nat.succ_eq_add_one, Nat.add_one_le_iff, Bool.not_eq_true', Bool.not_eq_false', rng_length, dSpan_mk, dReach_mk, dWay_mk, dStep_mk, dFar_mk, rng_getD, DL.d1, DL.d2, DL.d7, DL.d8]
  have hz : (askM a.N a.T != 0) = false → askM a.N a.T = 0 := fun h => by simpa using h
  have hnz : (askM a.N a.T != 0) = true → askM a.N a.T ≠ 0 := fun h => by simpa using h
  refine ⟨⟨h1, h2⟩, fun he => ?_, fun he => ?_⟩
  · have : costE a.N a.T = askM a.N a.T := by unfold costE; rw [if_neg (hnz he)]
    exact ⟨by unfold costV; rw [this, if_neg (hnz he)], this⟩
  · have ha := hz he
    have hbl : balL a.N a.T = unbM a.N a.T := by unfold balL; rw [if_pos ha]
    rw [hbl]
    refine ⟨fun hu => ?_, fun hu => ⟨ha, ?_⟩⟩
    · have : costE a.N a.T = 7 := by unfold costE; rw [if_pos ha, if_neg (by omega)]
      exact ⟨by unfold costV; rw [this]; rfl, this⟩
    · have : costE a.N a.T = 0 := by unfold costE; rw [if_pos ha, if_pos (by omega)]
      exact ⟨by unfold costV; rw [if_pos this], this⟩
theorem ok22 : SpecOk Try.prog 22 (C42.spec d42) := okC C42 (fun _ => A22) [] [] Try.func22 (fun _ => by kernel_rfl) (fun _ => gok_cons ok47 (gok_cons ok59 gok_nil)) (fun a h => p22 a h.1 h.2) (fun _ => noI rfl rfl) _
end Go.Bal
