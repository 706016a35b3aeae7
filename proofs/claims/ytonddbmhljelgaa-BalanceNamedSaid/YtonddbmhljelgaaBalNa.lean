/- BalanceNamed. -/
import Derived.Test.YtonddbmhljelgaaBalAr
import Derived.Test.YtonddbmhljelgaaBalT23
import Derived.Test.YtonddbmhljelgaaBalMk4
set_option linter.unusedVariables false
set_option linter.unusedSimpArgs false
namespace Go.Bal
open Go Go.Sym Go.Proofs
structure BIN where
  a : List Int
  x : Int
  y : Int
structure KB where
  k : Nat
  b : Bool
  deriving Inhabited
def naA (a : BIN) : SN := SN.mk (Stm.mk a.a 0 0) 7
def naI (a : BIN) : Int := pickM a.x (madeN (naA a)).r.length
def naLo (a : BIN) : Int := wr (pickM a.y 400 - 150)
def naN (a : BIN) : NetL := toldN (madeN (naA a)) (naI a).toNat ⟨naLo a, wr (naLo a + 3)⟩
def naS (a : BIN) : List Int := susT (naN a)
def naT (a : BIN) (s : KB) : ST := ⟨[(7, .bptr 201 0), (9, .int (naI a)), (10, .d (eIntsL (naS a))), (14, .d (eIntsL (levT (naN a)))), (17, .bool s.b), (18, .int s.k)], [(201, begO (naN a))]⟩
def A4 (a : BIN) : Ann := { ann 204 [(30, C30.spec d30), (29, C29o.spec d33), (31, s31), (25, C25t.spec dN), (19, C19t.spec dN), (21, C21t.spec dN), (24, C24.spec dP), (15, C15o.spec d67), (14, s14)] with cutIn := fun gs id => if id = 7 then some [{ α := One, dflt := default, T := fun _ => ⟨[(7, .bptr 201 0), (9, .int (naI a))], [(201, begO (naN a))]⟩, inv := fun _ => True, meas := fun _ => 0, first := [(201, 2096)], ffz := [2032] }] else none, loops := fun id => if id = 19 then some [{ α := KB, dflt := default, T := fun s => naT a s, inv := fun s => s.k ≤ (naS a).length ∧ setC (naN a) ≠ 0 ∧ s.b = ((naS a).take s.k).contains (naI a), meas := fun s => (naS a).length - s.k }] else none }
def xsBIN (a : BIN) : List AVal := [.d (eBys a.a), .int a.x, .int a.y]
def V4 (a : BIN) : Prop := fnVC Try.prog (A4 a) Try.f4 (bodyOf Try.f4) (xsBIN a) (heapOf []) (.bool true) [] [] []
abbrev z4_0 (a : BIN) : List Int := rng a.a.length fun (i : Nat) => gD a.a i
abbrev z4_1 (a : BIN) : Nat := (z4_0 a).length
abbrev z4_2 (a : BIN) (i : Nat) : Int := gD (z4_0 a) i
abbrev z4_3 (a : BIN) : List Int := rng (z4_1 a) fun (i : Nat) => z4_2 a i
abbrev z4_4 (a : BIN) : Nat := (z4_3 a).length
abbrev z4_5 : Prop := (0 : Int) = (0 : Int)
abbrev z4_6 (a : BIN) : Stm := Stm.mk (z4_3 a) (0 : Int) (0 : Int)
abbrev z4_7 (a : BIN) : NetL := madeN (SN.mk (z4_6 a) (7 : Int))
abbrev z4_8 (a : BIN) : List Reach := (z4_7 a).r
abbrev z4_9 (a : BIN) : Nat := (z4_8 a).length
abbrev z4_10 (a : BIN) : Int := pickM a.x (↑(z4_9 a) : Int)
abbrev z4_11 (a : BIN) : Prop := (0 : Int) ≤ z4_10 a ∧ z4_10 a < (↑(z4_9 a) : Int)
abbrev z4_12 (a : BIN) : Nat := (0 : Nat) + (z4_10 a).toNat
abbrev z4_13 (a : BIN) : Prop := z4_11 a ∧ (z4_12 a).succ.le (z4_9 a)
abbrev z4_14 (a : BIN) : List Span := (z4_7 a).g
abbrev z4_15 (a : BIN) (i : Nat) : Span := gD (z4_14 a) i
abbrev z4_16 (j : Nat) : Nat := (0 : Nat) + j
abbrev z4_17 (j : Nat) (a : BIN) : Bool := decide (z4_16 j = z4_12 a)
abbrev z4_18 (a : BIN) : Bool := decide (z4_12 a = z4_12 a)
abbrev z4_19 (a : BIN) : Reach := gD (z4_8 a) (z4_12 a)
abbrev z4_20 (a : BIN) : Int := (z4_19 a).fr
abbrev z4_21 (a : BIN) (j : Nat) : Reach := gD (z4_8 a) (z4_16 j)
abbrev z4_22 (a : BIN) : Int := (z4_19 a).to
abbrev z4_23 (a : BIN) : Int := IntKind.i64.wrap (pickM a.y (400 : Int) - (150 : Int))
abbrev z4_24 (a : BIN) : Span := (z4_19 a).sp
abbrev z4_25 (a : BIN) : Int := bif z4_18 a then z4_23 a else (z4_24 a).lo
abbrev z4_26 (a : BIN) (j : Nat) : Span := (z4_21 a j).sp
abbrev z4_27 (a : BIN) : List Span := rng (naN a).g.length fun (i : Nat) => gD (naN a).g i
abbrev z4_28 (a : BIN) : Nat := (z4_27 a).length
abbrev z4_29 (a : BIN) : Prop := z4_28 a = (naN a).g.length
abbrev z4_30 (a : BIN) (i : Nat) : Span := gD (z4_27 a) i
abbrev z4_31 (a : BIN) (i : Nat) : Int := (z4_30 a i).lo
abbrev z4_32 (a : BIN) (i : Nat) : Int := (z4_30 a i).hi
abbrev z4_33 (a : BIN) : Prop := ∀ (i : Nat), i < z4_28 a → z4_31 a i = (gD (naN a).g i).lo ∧ z4_32 a i = (gD (naN a).g i).hi
abbrev z4_34 (a : BIN) : List Reach := rng (naN a).r.length fun (i : Nat) => gD (naN a).r i
abbrev z4_35 (a : BIN) : Nat := (z4_34 a).length
abbrev z4_36 (a : BIN) : Prop := z4_35 a = (naN a).r.length
abbrev z4_37 (a : BIN) (i : Nat) : Reach := gD (z4_34 a) i
abbrev z4_38 (a : BIN) (i : Nat) : Int := (z4_37 a i).fr
abbrev z4_39 (a : BIN) (i : Nat) : Int := (z4_37 a i).to
abbrev z4_40 (a : BIN) (i : Nat) : Span := (z4_37 a i).sp
abbrev z4_41 (a : BIN) (i : Nat) : Int := (z4_40 a i).lo
abbrev z4_42 (a : BIN) (i : Nat) : Int := (z4_40 a i).hi
abbrev z4_43 (a : BIN) : Prop := ∀ (i : Nat), i < z4_35 a → z4_38 a i = (gD (naN a).r i).fr ∧ z4_39 a i = (gD (naN a).r i).to ∧ z4_41 a i = (gD (naN a).r i).sp.lo ∧ z4_42 a i = (gD (naN a).r i).sp.hi
abbrev z4_44 (a : BIN) : Prop := z4_29 a ∧ z4_33 a ∧ z4_36 a ∧ z4_43 a
abbrev z4_45 (a : BIN) : NetL := NetL.mk (z4_27 a) (z4_34 a)
abbrev z4_46 (a : BIN) : Bool := checkL (z4_45 a) != (0 : Int)
abbrev z4_47 (a : BIN) : Int := suspE (z4_45 a)
abbrev z4_48 (a : BIN) : List Int := levT (z4_45 a)
abbrev z4_49 (a : BIN) : Nat := (z4_48 a).length
abbrev z4_50 (a : BIN) (i : Nat) : Int := gD (z4_48 a) i
abbrev z4_51 (a : BIN) : List Int := rng (z4_49 a) fun (i : Nat) => z4_50 a i
abbrev z4_52 (a : BIN) : Nat := (z4_51 a).length
abbrev z4_53 (a : BIN) : Int := provE (NPL.mk (z4_45 a) (1 : Int) (z4_51 a))
abbrev z4_54 (a : BIN) : List Int := susT (z4_45 a)
abbrev z4_55 (a : BIN) : Prop := (naN a).g.length = (naN a).g.length ∧ (∀ (i : Nat), i < (naN a).g.length → (gD (naN a).g i).lo = (gD (naN a).g i).lo ∧ (gD (naN a).g i).hi = (gD (naN a).g i).hi) ∧ (naN a).r.length = (naN
 a).r.length ∧ ∀ (i : Nat), i < (naN a).r.length → (gD (naN a).r i).fr = (gD (naN a).r i).fr ∧ (gD (naN a).r i).to = (gD (naN a).r i).to ∧ (gD (naN a).r i).sp.lo = (gD (naN a).r i).sp.lo ∧ (gD (naN a).r i).sp.hi = (gD
 (naN a).r i).sp.hi
abbrev z4_56 (a : KB) (a1 : BIN) : Prop := a.k ≤ (naS a1).length ∧ setC (naN a1) ≠ (0 : Int) ∧ a.b = (List.take a.k (naS a1)).contains (naI a1)
abbrev z4_57 (a : KB) (a1 : BIN) : Prop := (↑a.k : Int) < (↑(naS a1).length : Int)
abbrev z4_58 (a : KB) (a1 : BIN) : Prop := (0 : Int) ≤ (↑a.k : Int) ∧ z4_57 a a1
abbrev z4_59 (a : BIN) (a1 : KB) : Bool := decide (gD (naS a) a1.k < (0 : Int))
abbrev z4_60 (a : BIN) (a1 : KB) : Bool := bif z4_59 a a1 then true else decide (gD (naS a) a1.k ≥ (↑(naN a).r.length : Int))
abbrev z4_61 (a : KB) : Bool := decide ((↑a.k : Int) > (0 : Int))
abbrev z4_62 (a : BIN) (a1 : KB) : Prop := (!z4_60 a a1 && z4_61 a1) = true
abbrev z4_63 (a : KB) : Int := IntKind.i64.wrap ((↑a.k : Int) - (1 : Int))
abbrev z4_64 (a : BIN) (a1 : KB) : Prop := (0 : Int) ≤ gD (naS a) a1.k
abbrev z4_65 (a : BIN) (a1 : KB) : Reach := gD (naN a).r (gD (naS a) a1.k).toNat
abbrev z4_66 (a : BIN) (a1 : KB) : Int := (z4_65 a a1).fr
abbrev z4_67 (a : BIN) (a1 : KB) : Int := (z4_65 a a1).to
abbrev z4_68 (a : BIN) (a1 : KB) : Nat := (0 : Nat) + (gD (naS a) a1.k).toNat
abbrev z4_69 (a : BIN) : List Span := rng (z4_28 a) fun (i : Nat) => z4_30 a i
abbrev z4_70 (a : BIN) : Nat := (z4_69 a).length
abbrev z4_71 (a : BIN) (i : Nat) : Span := gD (z4_69 a) i
abbrev z4_72 (i : Nat) (a : BIN) (a1 : KB) : Prop := i = z4_68 a a1
abbrev z4_73 (i : Nat) (a : BIN) (a1 : KB) : Bool := decide (z4_72 i a a1)
abbrev z4_74 (a : BIN) (a1 : KB) : Reach := gD (z4_34 a) (z4_68 a a1)
abbrev z4_75 (a : BIN) (a1 : KB) : Int := (z4_74 a a1).fr
abbrev z4_76 (a : BIN) (a1 : KB) : Int := (z4_74 a a1).to
abbrev z4_77 (a : BIN) (a1 : KB) : List Reach := rng (z4_35 a) fun (i : Nat) => Reach.mk (bif z4_73 i a a1 then z4_75 a a1 else z4_38 a i) (bif z4_73 i a a1 then z4_76 a a1 else z4_39 a i) (Span.mk (bif z4_73 i a a1 then
 (-1000000 : Int) else z4_41 a i) (bif z4_73 i a a1 then (1000000 : Int) else z4_42 a i))
abbrev z4_78 (i : Nat) (a : BIN) (a1 : KB) : Bool := decide (z4_72 i a a1)
abbrev z4_79 (a : BIN) (a1 : KB) (j : Nat) : Reach := gD (z4_77 a a1) j
abbrev z4_80 (j : Nat) (a : BIN) (a1 : KB) : Bool := decide (z4_16 j = z4_68 a a1)
abbrev z4_81 (a : BIN) (j : Nat) : Reach := gD (z4_34 a) (z4_16 j)
abbrev z4_82 (a : BIN) (a1 : KB) (j : Nat) : Span := (z4_79 a a1 j).sp
abbrev z4_83 (a : BIN) (j : Nat) : Span := (z4_81 a j).sp
abbrev z4_84 (a : BIN) (a1 : KB) : NetL := NetL.mk (z4_69 a) (z4_77 a a1)
abbrev z4_85 (a : BIN) (a1 : KB) : Nat := (naS a).length - a1.k
theorem vc4 (a : BIN) : (V4 a) = ((z4_1 a = a.a.length ∧ (∀ (i : Nat), i < z4_1 a → z4_2 a i = gD a.a i) ∧ (7 : Int) = Int.ofNat (7 : Nat) ∧ z4_4 a = z4_1 a ∧ (∀ (i : Nat), i < z4_4 a → gD (z4_3 a) i = z4_2 a i) ∧ z4_5 ∧
 z4_5 ∧ StmB (1000000000 : Int) (z4_6 a) ∧ ((1 : Int) ≤ (7 : Int) ∧ (7 : Int) ≤ (8 : Int)) ∧ (z4_9 a = (0 : Nat) → False)) ∧ bif (↑(z4_9 a) : Int) == (0 : Int) then true = true else z4_13 a ∧ ((z4_11 a ∧ z4_12 a < z4_9 a
 ∧ z4_13 a) ∧ ∃ (a_1 : One), (naI a = z4_10 a ∧ (naN a).g.length = (z4_14 a).length ∧ (∀ (i : Nat), i < (naN a).g.length → (gD (naN a).g i).lo = (z4_15 a i).lo ∧ (gD (naN a).g i).hi = (z4_15 a i).hi) ∧ (naN a).r.length =
 z4_9 a ∧ (0 : Nat) + z4_9 a ≤ z4_9 a ∧ ∀ (j : Nat), j < (naN a).r.length → ((gD (naN a).r j).fr = bif z4_17 j a then bif z4_18 a then z4_20 a else z4_20 a else bif z4_17 j a then z4_20 a else (z4_21 a j).fr) ∧ ((gD (naN
 a).r j).to = bif z4_17 j a then bif z4_18 a then z4_22 a else z4_22 a else bif z4_17 j a then z4_22 a else (z4_21 a j).to) ∧ ((gD (naN a).r j).sp.lo = bif z4_17 j a then z4_25 a else bif z4_17 j a then z4_23 a else
 (z4_26 a j).lo) ∧ (gD (naN a).r j).sp.hi = bif z4_17 j a then IntKind.i64.wrap (z4_25 a + (3 : Int)) else bif z4_17 j a then (z4_24 a).hi else (z4_26 a j).hi) ∧ True) ∧ ∀ (a_1 : One), True → z4_44 a ∧ z4_44 a ∧ bif z4_46
 a then true = false else bif agrM (z4_45 a) then true = bif z4_47 a == (8 : Int) then true else false else z4_44 a ∧ (z4_29 a ∧ z4_33 a ∧ z4_36 a ∧ z4_43 a ∧ (1 : Int) = Int.ofNat (1 : Nat) ∧ z4_52 a = z4_49 a ∧ (∀ (i :
 Nat), i < z4_52 a → gD (z4_51 a) i = z4_50 a i) ∧ (z4_52 a).succ.le (4611686018427387904 : Nat)) ∧ bif bif bif bif bif z4_47 a != (0 : Int) then true else z4_46 a then true else z4_53 a != (0 : Int) then true else
 !(decide (z4_53 a = (0 : Int)) && decide ((1 : Int) ≤ provedM (z4_45 a) (z4_51 a))) then true else (↑(z4_49 a) : Int) != (↑(naN a).g.length : Int) then true = false else (∃ (a_3 : KB), (naI a = naI a ∧ (naS a).length =
 (z4_54 a).length ∧ (∀ (i : Nat), i < (naS a).length → gD (naS a) i = gD (z4_54 a) i) ∧ (levT (naN a)).length = z4_49 a ∧ (∀ (i : Nat), i < (levT (naN a)).length → gD (levT (naN a)) i = z4_50 a i) ∧ a_3.b = false ∧
 (↑a_3.k : Int) = (0 : Int) ∧ z4_55 a) ∧ z4_56 a_3 a) ∧ ∀ (a_3 : KB), z4_56 a_3 a → bif decide (z4_57 a_3 a) then (z4_58 a_3 a ∧ ((!z4_59 a a_3) = true → z4_58 a_3 a) ∧ (z4_62 a a_3 → z4_58 a_3 a) ∧ (z4_62 a a_3 → (0 :
 Int) ≤ z4_63 a_3 ∧ z4_63 a_3 < (↑(naS a).length : Int))) ∧ bif bif z4_60 a a_3 then true else bif z4_61 a_3 then decide (gD (naS a) a_3.k ≤ gD (naS a) (z4_63 a_3).toNat) else false then true = false else ((!a_3.b) = true
 → z4_58 a_3 a) ∧ (z4_58 a_3 a ∧ z4_64 a a_3 ∧ gD (naS a) a_3.k < (↑(naN a).r.length : Int)) ∧ (((0 : Int) ≤ z4_66 a a_3 ∧ z4_66 a a_3 < (↑(levT (naN a)).length : Int)) ∧ (0 : Int) ≤ z4_67 a a_3 ∧ z4_67 a a_3 < (↑(levT
 (naN a)).length : Int)) ∧ bif gD (levT (naN a)) (z4_66 a a_3).toNat == gD (levT (naN a)) (z4_67 a a_3).toNat then true = false else (z4_29 a ∧ z4_33 a ∧ z4_36 a ∧ z4_43 a ∧ z4_28 a ≤ (1000000 : Nat) ∧ (0 : Nat) < z4_35 a
 ∧ z4_35 a ≤ (1000 : Nat)) ∧ (z4_58 a_3 a ∧ (z4_64 a a_3 ∧ gD (naS a) a_3.k < (↑(z4_35 a) : Int)) ∧ (z4_68 a a_3).succ.le (z4_35 a)) ∧ (z4_70 a = z4_28 a ∧ (∀ (i : Nat), i < z4_70 a → (z4_71 a i).lo = z4_31 a i ∧ (z4_71 a
 i).hi = z4_32 a i) ∧ (z4_77 a a_3).length = z4_35 a ∧ (0 : Nat) + z4_35 a ≤ z4_35 a ∧ ∀ (j : Nat), j < (rng (z4_35 a) fun (i : Nat) => Reach.mk (bif z4_78 i a a_3 then z4_75 a a_3 else z4_38 a i) (bif z4_78 i a a_3 then
 z4_76 a a_3 else z4_39 a i) (Span.mk (bif z4_78 i a a_3 then (-1000000 : Int) else z4_41 a i) (bif z4_78 i a a_3 then (1000000 : Int) else z4_42 a i))).length → ((z4_79 a a_3 j).fr = bif z4_80 j a a_3 then z4_75 a a_3
 else (z4_81 a j).fr) ∧ ((z4_79 a a_3 j).to = bif z4_80 j a a_3 then z4_76 a a_3 else (z4_81 a j).to) ∧ ((z4_82 a a_3 j).lo = bif z4_80 j a a_3 then (-1000000 : Int) else (z4_83 a j).lo) ∧ (z4_82 a a_3 j).hi = bif z4_80 j
 a a_3 then (1000000 : Int) else (z4_83 a j).hi) ∧ bif bif checkL (z4_84 a a_3) != (0 : Int) then true else !agrM (z4_84 a a_3) then true = false else ∃ (a_5 : KB), (naI a = naI a ∧ (naS a).length = (naS a).length ∧ (∀ (i
 : Nat), i < (naS a).length → gD (naS a) i = gD (naS a) i) ∧ (levT (naN a)).length = (levT (naN a)).length ∧ (∀ (i : Nat), i < (levT (naN a)).length → gD (levT (naN a)) i = gD (levT (naN a)) i) ∧ (a_5.b = bif a_3.b then
 true else gD (naS a) a_3.k == naI a) ∧ (↑a_5.k : Int) = IntKind.i64.wrap ((↑a_3.k : Int) + (1 : Int)) ∧ z4_55 a) ∧ z4_56 a_5 a ∧ z4_85 a a_5 < z4_85 a a_3 else true = bif a_3.b then true else false) := by kernel_rfl
def A4e : Ann := ann 204 [(30, C30.spec d30), (29, C29.spec d33), (31, s31), (14, s14)]
def V4e (a : BIN) : Prop := fnVC Try.prog A4e Try.f4 (bodyOf Try.f4) (xsBIN a) (heapOf []) (.bool true) [] [] []
theorem vc4e (a : BIN) : (V4e a) = (((rng a.a.length fun (i : Nat) => gD a.a i).length = a.a.length ∧ (∀ (i : Nat), i < (rng a.a.length fun (i : Nat) => gD a.a i).length → gD (rng a.a.length fun (i : Nat) => gD a.a i) i
 = gD a.a i) ∧ (7 : Int) = Int.ofNat (7 : Nat) ∧ (rng (rng a.a.length fun (i : Nat) => gD a.a i).length fun (i : Nat) => gD (rng a.a.length fun (i : Nat) => gD a.a i) i).length = (rng a.a.length fun (i : Nat) => gD a.a
 i).length ∧ (∀ (i : Nat), i < (rng (rng a.a.length fun (i : Nat) => gD a.a i).length fun (i : Nat) => gD (rng a.a.length fun (i : Nat) => gD a.a i) i).length → gD (rng (rng a.a.length fun (i : Nat) => gD a.a i).length
 fun (i : Nat) => gD (rng a.a.length fun (i : Nat) => gD a.a i) i) i = gD (rng a.a.length fun (i : Nat) => gD a.a i) i) ∧ (0 : Int) = (0 : Int) ∧ (0 : Int) = (0 : Int) ∧ StmB (1000000000 : Int) (Stm.mk (rng (rng
 a.a.length fun (i : Nat) => gD a.a i).length fun (i : Nat) => gD (rng a.a.length fun (i : Nat) => gD a.a i) i) (0 : Int) (0 : Int)) ∧ (1 : Int) ≤ (7 : Int) ∧ (7 : Int) ≤ (8 : Int)) ∧ bif (↑(madeN (SN.mk (Stm.mk (rng (rng
 a.a.length fun (i : Nat) => gD a.a i).length fun (i : Nat) => gD (rng a.a.length fun (i : Nat) => gD a.a i) i) (0 : Int) (0 : Int)) (7 : Int))).r.length : Int) == (0 : Int) then true = true else False) := by kernel_rfl
theorem told_rng2 {N : NetL} {i : Nat} (hi : i < N.r.length) (x y : Int) : rng N.r.length (fun j => Reach.mk (bif decide (j = i) then (gD N.r i).fr else (gD N.r j).fr) (bif decide (j = i) then (gD N.r i).to else (gD N.r j).to) (Span.mk (bif decide (j = i) then x else (gD N.r j).sp.lo) (bif decide (j = i) then y else (gD N.r j).sp.hi))) = (toldN N i ⟨x, y⟩).r := by
  apply gD_ext
  · simp [toldN]
  · intro j hj
    simp only [rng_length] at hj
    rw [rng_get _ _ _ hj, told_r hi]
    by_cases he : j = i
    · subst he; simp
    · simp only [he, decide_false, cond_false, if_false]
theorem take_con {l : List Int} {k : Nat} (hk : k < l.length) (x : Int) : (l.take (k + 1)).contains x = bif (l.take k).contains x then true else gD l k == x := by
  have e : gD l k = l[k] := by simp [gD, List.getElem?_eq_getElem hk]
  rw [List.take_succ_eq_append_getElem hk, e]
  simp only [List.contains_eq_any_beq, List.any_append, List.any_cons, List.any_nil, Bool.or_false]
  cases (List.take k l).any fun b => x == b
  · simp only [Bool.false_or, cond_false]; exact BEq.comm
  · rfl
theorem suspK_len (N : NetL) (n : Nat) : (suspK N n).length ≤ n := by
  unfold suspK
  rw [List.length_map]
  have := List.length_filter_le (fun i => suspB N i) (List.range n)
  rw [List.length_range] at this; exact this
theorem p4 (a : BIN) (h1 : ByOk a.a) (h0 : (madeN (naA a)).r.length ≠ 0) : V4 a := by
  have hm : Made (madeN (naA a)) (madeTr (naA a)) 7 := mk_ok h1 (by omega)
  have st1 := stm0 h1
  have r11 := hm.r11
  have gm := hm.gm
  have hI : 0 ≤ naI a ∧ naI a < (madeN (naA a)).r.length := pick_in a.x (n := (madeN (naA a)).r.length) (by omega)
  have hi : (naI a).toNat < (madeN (naA a)).r.length := by omega
  have hP := pick_in a.y (n := 400) (by omega)
  have eL : naLo a = pickM a.y 400 - 150 := w64 (by omega) (by omega)
  have eH : wr (naLo a + 3) = naLo a + 3 := w64 (by omega) (by omega)
  obtain ⟨hc, hn, hb⟩ := made_named hm (by omega) hi (s := ⟨naLo a, wr (naLo a + 3)⟩) (by simp only; omega)
  have hc : checkL (naN a) = 0 := hc
  have hn : Near (naN a) := hn
  have hb : suspB (naN a) (naI a).toNat = true := hb
  have lR : (naN a).r.length = (madeN (naA a)).r.length := told_len _ _ _
  have hg := good_of hc
  have hg8 := hg.g8
  have eA : SN.mk (Stm.mk a.a 0 0) 7 = naA a := rfl
  have eI : pickM a.x (madeN (naA a)).r.length = naI a := rfl
  have eY : IntKind.i64.wrap (pickM a.y 400 - 150) = naLo a := rfl
  have et : NetL.mk (naN a).g (naN a).r = naN a := rfl
  have eS : susT (naN a) = naS a := rfl
  rw [vc4]; delta z4_0 z4_1 z4_2 z4_3 z4_4 z4_5 z4_6 z4_7 z4_8 z4_9 z4_10 z4_11 z4_12 z4_13 z4_14 z4_15 z4_16 z4_17 z4_18 z4_19 z4_20 z4_21 z4_22 z4_23 z4_24 z4_25 z4_26 z4_27 z4_28 z4_29 z4_30 z4_31 z4_32 z4_33 z4_34 z4_35 z4_36 z4_37 z4_38 z4_39 z4_40 z4_41 z4_42 z4_43 z4_44 z4_45 z4_46 z4_47 z4_48 z4_49 z4_50 z4_51 z4_52 z4_53 z4_54 z4_55 z4_56 z4_57 z4_58 z4_59 z4_60 z4_61 z4_62 z4_63 z4_64 z4_65 z4_66 z4_67 z4_68 z4_69 z4_70 z4_71 z4_72 z4_73 z4_74 z4_75 z4_76 z4_77 z4_78 z4_79 z4_80 z4_81 z4_82 z4_83 z4_84 z4_85; simp only [condP, eq_self, implies_true, and_self, true_and, and_true, true_implies, forall_const, decide_eq_true_eq, decide_eq_false_iff_not, Int.toNat_natCast, dSpan_eSpan, dReach_eReach, dWay_eWay, dStep_eStep, dFar_eFar, dInt_eInt, Nat.zero_add, Int.zero_sub, Nat.le_eq, Nat.succ_eq_add_one, Nat.add_one_le_iff, Bool.not_eq_true', Bool.not_eq_false', rng_length, dSpan_mk, dReach_mk, dWay_mk, dStep_mk, dFar_mk, rng_getD, DL.m2, DL.d1, DL.d2, DL.d7, DL.d8, eA, eI, eY, et, eS, hc]
  refine ⟨⟨rfl, st1.mono (by omega), ⟨by omega, by omega⟩, h0⟩, fun _ => ⟨⟨hI, hi⟩, ⟨⟨hI, hi, hI, hi⟩, ⟨0⟩, rfl, fun _ _ => ⟨rfl, rfl⟩, lR, Nat.le_refl _, fun j hj => ?_⟩, fun h => by simp at h, fun _ => ⟨fun hA => ?_, fun hA => ?_⟩⟩⟩
  · have e := told_r hi ⟨naLo a, wr (naLo a + 3)⟩ j
    have e : gD (naN a).r j = _ := e
    rw [e]
    by_cases he : j = (naI a).toNat
    · subst he; simp
    · simp [he]
  · have hz : setC (naN a) = 0 := by
      unfold agrM at hA; simp at hA; exact hA.2
    have : suspE (naN a) = 8 := by unfold suspE; rw [if_pos hc, if_pos hz]
    rw [this]; rfl
  · have hS : setC (naN a) ≠ 0 := fun hz => by
      unfold agrM at hA; rw [decide_eq_true hc, decide_eq_true hz] at hA; cases hA
    have sE : suspE (naN a) = 0 := suspE_zero.2 ⟨hc, hS⟩
    have eK : naS a = suspK (naN a) (naN a).r.length := if_pos sE
    have sl : (naS a).length ≤ (naN a).r.length := by rw [eK]; exact suspK_len _ _
    have eV : levT (naN a) = levM (naN a) := if_pos hc
    obtain ⟨v1, v2⟩ := levM_ok hc
    have hbd := setC_bd hc
    have pE : provE ⟨naN a, 1, levM (naN a)⟩ = 0 := by unfold provE; simp only; rw [if_pos hc, if_pos v1]
    have vl := (levOk_iff.1 v1).1
    have hp : decide (1 ≤ provedM (naN a) (levM (naN a))) = true := decide_eq_true (by omega)
    rw [sE, eV, pE, hp, vl]
    refine ⟨⟨rfl, by omega⟩, fun h => by simp at h, fun _ => ⟨⟨⟨0, false⟩, ⟨rfl, rfl⟩, Nat.zero_le _, hS, rfl⟩, fun s ⟨q1, _, q2⟩ => ⟨fun hlt => ?_, fun hge => ?_⟩⟩⟩
    · have hk : s.k < (naS a).length := by omega
      obtain ⟨k, e1, e2, e3⟩ := suspK_get (N := naN a) (j := s.k) (by rw [← eK]; exact hk)
      rw [← eK] at e1
      obtain ⟨x1, x2⟩ := susp_says hc hn e2 e3 hS
      obtain ⟨_, b1, b2, _⟩ := hg.r k e2
      have hw : 0 < s.k → IntKind.i64.wrap ((s.k : Int) - 1) = s.k - 1 := fun h => w64 (by omega) (by omega)
      have hd : (bif decide (gD (naS a) s.k < 0) then true else decide (gD (naS a) s.k ≥ (naN a).r.length)) = false := by
        rw [e1, decide_eq_false (by omega), decide_eq_false (by omega)]; rfl
      have hq : (bif decide ((s.k : Int) > 0) then decide (gD (naS a) s.k ≤ gD (naS a) (IntKind.i64.wrap ((s.k : Int) - 1)).toNat) else false) = false := by
        by_cases h : 0 < s.k
        · have hl := suspK_lt (N := naN a) (n := (naN a).r.length) (j := s.k - 1) (by rw [← eK]; omega)
          rw [← eK, show s.k - 1 + 1 = s.k by omega] at hl
          rw [hw h, show ((s.k : Int) - 1).toNat = s.k - 1 by omega, decide_eq_false (by omega : ¬ gD (naS a) s.k ≤ gD (naS a) (s.k - 1)), decide_eq_true (by omega)]; rfl
        · rw [decide_eq_false (by omega)]; rfl
      rw [hd, hq, e1, Int.toNat_natCast]
      have hne : (gD (levM (naN a)) (gD (naN a).r k).fr.toNat == gD (levM (naN a)) (gD (naN a).r k).to.toNat) = false := by simpa using x1
      rw [hne, told_rng2 e2]
      have et : NetL.mk (naN a).g (toldN (naN a) k ⟨-1000000, 1000000⟩).r = toldN (naN a) k ⟨-1000000, 1000000⟩ := rfl
      have hn : checkL (toldN (naN a) k ⟨-1000000, 1000000⟩) = 0 := check_good (told_good hg e2 (by simp only; omega))
      rw [et, hn, x2]
      refine ⟨⟨⟨by omega, hlt⟩, fun _ => ⟨by omega, hlt⟩, fun _ => ⟨by omega, hlt⟩, fun h => ?_⟩, fun h => by simp at h, fun _ => ⟨fun _ => ⟨by omega, hlt⟩, ⟨⟨by omega, hlt⟩, by omega, by omega⟩, ⟨⟨by omega, by omega⟩, by omega, by omega⟩, fun h => by simp at h, fun _ => ⟨⟨by omega, by omega, by omega⟩, ⟨⟨by omega, hlt⟩, ⟨by omega, by omega⟩, e2⟩, ⟨Nat.le_refl _, fun j hj => ?_⟩, fun h => by simp at h, fun _ => ⟨⟨s.k + 1, bif s.b then true else gD (naS a) s.k == naI a⟩, ⟨by rw [e1], (wsucc (by omega)).symm⟩, ⟨by simp only; omega, hS, ?_⟩, by simp only; omega⟩⟩⟩⟩
      · have h : 0 < s.k := by simp at h; omega
        rw [hw h]; omega
      · rw [told_r e2]
        by_cases he : j = k
        · subst he; simp
        · simp [he]
      · simp only; rw [q2, take_con hk]
    · have hk : s.k = (naS a).length := by omega
      rw [hk, List.take_length] at q2
      have hmem := suspK_mem (N := naN a) (n := (naN a).r.length) (k := (naI a).toNat) (by omega) hb
      rw [← eK, show (((naI a).toNat : Nat) : Int) = naI a by omega] at hmem
      have : (naS a).contains (naI a) = true := by simpa using hmem
      rw [q2, this]; rfl
theorem p4e (a : BIN) (h1 : ByOk a.a) (h0 : (madeN (naA a)).r.length = 0) : V4e a := by
  have st1 := stm0 h1
  have eA : SN.mk (Stm.mk a.a 0 0) 7 = naA a := rfl
  rw [vc4e]; simp only [condP, eq_self, implies_true, and_self, true_and, and_true, true_implies, forall_const, decide_eq_true_eq, decide_eq_false_iff_not, Int.toNat_natCast, dSpan_eSpan, dReach_eReach, dWay_eWay, dStep_eStep, dFar_eFar, dInt_eInt, Nat.zero_add, Int.zero_sub, Nat.le_eq, Nat.succ_eq_add_one, Nat.add_one_le_iff, Bool.not_eq_true', Bool.not_eq_false', rng_length, dSpan_mk, dReach_mk, dWay_mk, dStep_mk, dFar_mk, rng_getD, DL.m2, DL.d1, DL.d2, DL.d7, DL.d8, eA, h0]
  exact ⟨⟨rfl, st1.mono (by omega), by omega, by omega⟩, fun h => by simp at h⟩
theorem c4 (a : BIN) (h1 : ByOk a.a) : FnT Try.prog 4 (xsBIN a) (heapOf []) (.bool true) [] := by
  by_cases h : (madeN (naA a)).r.length = 0
  · exact fnt (A := A4e) (ren := []) (fz := []) Try.func4 (by kernel_rfl) (gok_cons ok30 (gok_cons ok29 (gok_cons ok31 (gok_cons ok14 gok_nil)))) (p4e a h1 h)
  · exact fnt (A := A4 a) (ren := []) (fz := []) Try.func4 (by kernel_rfl) (gok_cons ok30 (gok_cons ok29o (gok_cons ok31 (gok_cons ok25t (gok_cons ok19t (gok_cons ok21t (gok_cons ok24t (gok_cons ok15o (gok_cons ok14 gok_nil))))))))) (p4 a h1 h)
end Go.Bal
