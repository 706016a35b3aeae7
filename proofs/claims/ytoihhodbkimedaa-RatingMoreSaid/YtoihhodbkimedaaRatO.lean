/- Package rating: Stages, Dry. -/
import Derived.Test.YtoihhodbkimedaaRatM
set_option linter.unusedVariables false
set_option linter.unusedSimpArgs false
namespace Go.Bal
open Go Go.Sym Go.Proofs
structure GBf where
 a : GB
 f : Int
def dGBf : List AVal -> Heap -> Option (GBf × List (Nat × Nat) × List Nat)
 | [x, y, .d t], H => match dGaus x H, dInts y H with
  | some (l, f), some (m, e) => some (⟨⟨l, m⟩, dInt t⟩, [], f ++ e)
  | _, _ => none
 | _, _ => none
def xGBf (x : GBf) : List AVal := [.d (eGaus x.a.g), .d (eIntsL x.a.b), .int x.f]
def hsK : Nat -> (Int -> Bool) × (Int -> Int)
 | 0 => (λ _ => false, λ _ => 0)
 | k + 1 => (hasUp (hsK k).1 k, stUp (hsK k).1 (hsK k).2 k)
def wK (a : GB) (k : Nat) : Bk := ⟨a.g, a.b, (hsK k).1, (hsK k).2⟩
def stF (x : GBf) (k : Nat) : Int := upM st1 ⟨newB x.a, k, ⟨x.f, 1⟩⟩ + 1
def stL (x : GBf) (k : Nat) : Int := upM st2 ⟨newB x.a, k, ⟨x.f, 1⟩⟩
def lnK (a : GB) (k : Nat) : List Ln := lnsM (insM (newB a) k) (spanM (newB a) k).lo
def stgS (x : GBf) : Nat -> Nat -> Span -> Bool -> Span × Int
 | 0, _, o, m => bif m then (o, 0) else (default, 5)
 | n + 1, k, o, m => bif decide ((lnK x.a k).length = 0) then (default, 6) else bif decide (stL x k < stF x k) then stgS x n (k + 1) o m else stgS x n (k + 1) ⟨bif m then o.lo else stF x k, stL x k⟩ true
def preB (a : GB) : Prop := a.g.length < 4611686018427387904 /\ a.b.length < 4611686018427387904
def inF (x : GBf) : Bool := inM x.f 0 200000
def stgM (x : GBf) : Span × Int := bif openE x.a == 0 then (bif inF x then stgS x (x.a.b.length + 1) 0 default false else (default, 4)) else (default, openE x.a)
structure KOM where
 k : Nat
 o : Span
 m : Bool
 deriving Inhabited
def bkH (w : Bk) (p q : Nat) : List (Nat × HCell) := [(p, .live (bkB w q)), (q, .live (bkM w))]
def sg8 (x : GBf) : Shape := { α := KOM, dflt := default, T := λ y => ⟨[(2, .int x.f), (6, .bptr 1000 0), (8, .bptr 2032 0), (10, .bptr 7016 0), (11, .bool y.m), (36, .int (x.a.b.length + 1)), (37, .int y.k)], bkH (wK x.a y.k) 2032 2033 ++ [(1000, .live (.box [.int 0, .int 0])), (7016, .live (.box [.int y.o.lo, .int y.o.hi]))]⟩, inv := λ y => y.k <= x.a.b.length + 1 /\ stgM x = stgS x (x.a.b.length + 1 - y.k) y.k y.o y.m, meas := λ y => x.a.b.length + 1 - y.k }
def C_Stages : Ctr := { α := GBf, xs := xGBf, L := λ _ => [], val := λ x => .tup [.d (eSpan (stgM x).1), .int (stgM x).2], keep := λ _ => [], pre := λ x => [preB x.a /\ True] }
def G_sg (c : Sym.Spec) : List (FuncId × Sym.Spec) := [(n_opened, c), (n_in, s_in), (n_span, C_span.spec dBkI), (n_lines, C_lns.spec dBkS), (n_upTo, orS ((C_up st1 n_Stages1).spec (dUpI n_Stages1)) ((C_up st2 n_Stages2).spec (dUpI n_Stages2)))]
def A_StG (x : GBf) : Ann := { ann 75 (G_sg (C_open.spec dGB)) with loops := λ id => if id = 8 then some [sg8 x] else none }
def A_StX : Ann := { ann 75 (G_sg (C_openX.spec dGB)) with cut := λ id => if id = 6 then some [] else none }
def V_StG (x : GBf) : Prop := fnVC Try.prog (A_StG x) F_Stages (bodyOf F_Stages) (xGBf x) (heapOf []) (C_Stages.val x) [] [] []
abbrev z_StG_0 (x : GBf) : List Gau := rng x.a.g.length λ (i : Nat) => gD x.a.g i
abbrev z_StG_1 (x : GBf) : Nat := (z_StG_0 x).length
abbrev z_StG_2 (x : GBf) (i : Nat) : Gau := gD (z_StG_0 x) i
abbrev z_StG_3 (x : GBf) : List Int := rng x.a.b.length λ (i : Nat) => gD x.a.b i
abbrev z_StG_4 (x : GBf) : Nat := (z_StG_3 x).length
abbrev z_StG_5 (x : GBf) : GB := GB.mk (z_StG_0 x) (z_StG_3 x)
abbrev z_StG_6 (x : GBf) : Prop := (stgM x).fst.lo = (0 : Int)
abbrev z_StG_7 (x : GBf) : Prop := (stgM x).fst.hi = (0 : Int)
abbrev z_StG_8 (x : GBf) : Int := (↑x.a.b.length : Int) + (1 : Int)
abbrev z_StG_9 (x : GBf) : Bk := newB (z_StG_5 x)
abbrev z_StG_10 (x : GBf) : List Gau := (z_StG_9 x).g
abbrev z_StG_11 (i : Nat) (x : GBf) (a : KOM) : Prop := i < (wK x.a a.k).g.length
abbrev z_StG_12 (x : GBf) (a : KOM) (i : Nat) : Gau := gD (wK x.a a.k).g i
abbrev z_StG_13 (x : GBf) (a : KOM) (i : Nat) : Int := (z_StG_12 x a i).st
abbrev z_StG_14 (x : GBf) (i : Nat) : Gau := gD (z_StG_10 x) i
abbrev z_StG_15 (x : GBf) (a : KOM) (i : Nat) : Int := (z_StG_12 x a i).lo
abbrev z_StG_16 (x : GBf) (a : KOM) (i : Nat) : Int := (z_StG_12 x a i).hi
abbrev z_StG_17 (x : GBf) : List Int := (z_StG_9 x).b
abbrev z_StG_18 (i : Nat) (x : GBf) (a : KOM) : Prop := i < (wK x.a a.k).b.length
abbrev z_StG_19 (x : GBf) (a : KOM) (i : Nat) : Int := gD (wK x.a a.k).b i
abbrev z_StG_20 : Value := Value.slice none (0 : Nat) (0 : Nat)
abbrev z_StG_21 : Prop := z_StG_20 = z_StG_20
abbrev z_StG_22 (x : GBf) (n : Int) : List Ln := fdM (z_StG_9 x) n
abbrev z_StG_23 (i : Nat) (x : GBf) (a : KOM) (n : Int) : Prop := i < (fdM (wK x.a a.k) n).length
abbrev z_StG_24 (x : GBf) (a : KOM) (n : Int) (i : Nat) : Ln := gD (fdM (wK x.a a.k) n) i
abbrev z_StG_25 (x : GBf) (a : KOM) (n : Int) (i : Nat) : Int := (z_StG_24 x a n i).a0
abbrev z_StG_26 (x : GBf) (n : Int) (i : Nat) : Ln := gD (z_StG_22 x n) i
abbrev z_StG_27 (x : GBf) (a : KOM) (n : Int) (i : Nat) : Int := (z_StG_24 x a n i).a1
abbrev z_StG_28 (x : GBf) (a : KOM) (n : Int) (i : Nat) : Int := (z_StG_24 x a n i).b0
abbrev z_StG_29 (x : GBf) (a : KOM) (n : Int) (i : Nat) : Int := (z_StG_24 x a n i).b1
abbrev z_StG_30 : Prop := Int.ofNat (0 : Nat) = Int.ofNat (0 : Nat)
abbrev z_StG_31 (x : GBf) : Nat := x.a.b.length + (1 : Nat)
abbrev z_StG_32 (x : GBf) (a : KOM) : Nat := z_StG_31 x - a.k
abbrev z_StG_33 (a : KOM) (x : GBf) : Prop := a.k <= z_StG_31 x /\ stgM x = stgS x (z_StG_32 x a) a.k a.o a.m
abbrev z_StG_34 (a : KOM) : Prop := (↑a.k : Int) = (↑a.k : Int)
abbrev z_StG_35 (x : GBf) (a : KOM) : List Gau := rng (wK x.a a.k).g.length λ (i : Nat) => z_StG_12 x a i
abbrev z_StG_36 (x : GBf) (a : KOM) : Nat := (z_StG_35 x a).length
abbrev z_StG_37 (x : GBf) (a : KOM) : Prop := z_StG_36 x a = (wK x.a a.k).g.length
abbrev z_StG_38 (x : GBf) (a : KOM) (i : Nat) : Gau := gD (z_StG_35 x a) i
abbrev z_StG_39 (x : GBf) (a : KOM) (i : Nat) : Int := (z_StG_38 x a i).st
abbrev z_StG_40 (x : GBf) (a : KOM) (i : Nat) : Int := (z_StG_38 x a i).lo
abbrev z_StG_41 (x : GBf) (a : KOM) (i : Nat) : Int := (z_StG_38 x a i).hi
abbrev z_StG_42 (x : GBf) (a : KOM) : Prop := ∀ (i : Nat), i < z_StG_36 x a -> z_StG_39 x a i = z_StG_13 x a i /\ z_StG_40 x a i = z_StG_15 x a i /\ z_StG_41 x a i = z_StG_16 x a i
abbrev z_StG_43 (x : GBf) (a : KOM) : List Int := rng (wK x.a a.k).b.length λ (i : Nat) => z_StG_19 x a i
abbrev z_StG_44 (x : GBf) (a : KOM) : Nat := (z_StG_43 x a).length
abbrev z_StG_45 (x : GBf) (a : KOM) : Prop := z_StG_44 x a = (wK x.a a.k).b.length
abbrev z_StG_46 (x : GBf) (a : KOM) (i : Nat) : Int := gD (z_StG_43 x a) i
abbrev z_StG_47 (x : GBf) (a : KOM) : Prop := ∀ (i : Nat), i < z_StG_44 x a -> z_StG_46 x a i = z_StG_19 x a i
abbrev z_StG_48 (x : GBf) (a : KOM) : Prop := ∀ (n : Int), (wK x.a a.k).has n = (wK x.a a.k).has n
abbrev z_StG_49 (x : GBf) (a : KOM) : Prop := ∀ (n : Int), (wK x.a a.k).st n = (wK x.a a.k).st n
abbrev z_StG_50 (x : GBf) (a : KOM) : Bk := Bk.mk (z_StG_35 x a) (z_StG_43 x a) (wK x.a a.k).has (wK x.a a.k).st
abbrev z_StG_51 (x : GBf) (a : KOM) (n : Int) : List Ln := fdM (z_StG_50 x a) n
abbrev z_StG_52 (x : GBf) (a : KOM) (n : Int) : Nat := (z_StG_51 x a n).length
abbrev z_StG_53 (x : GBf) (a : KOM) (n : Int) (i : Nat) : Ln := gD (z_StG_51 x a n) i
abbrev z_StG_54 (x : GBf) (a : KOM) (n : Int) (i : Nat) : Int := (z_StG_53 x a n i).a0
abbrev z_StG_55 (x : GBf) (a : KOM) (n : Int) (i : Nat) : Int := (z_StG_53 x a n i).a1
abbrev z_StG_56 (x : GBf) (a : KOM) (n : Int) (i : Nat) : Int := (z_StG_53 x a n i).b0
abbrev z_StG_57 (x : GBf) (a : KOM) (n : Int) (i : Nat) : Int := (z_StG_53 x a n i).b1
abbrev z_StG_58 (x : GBf) (a : KOM) : Prop := ∀ (n : Int), z_StG_52 x a n = (fdM (wK x.a a.k) n).length /\ ∀ (i : Nat), i < z_StG_52 x a n -> z_StG_54 x a n i = z_StG_25 x a n i /\ z_StG_55 x a n i = z_StG_27 x a n i /\
 z_StG_56 x a n i = z_StG_28 x a n i /\ z_StG_57 x a n i = z_StG_29 x a n i
abbrev z_StG_59 (x : GBf) (a : KOM) : Prop := (wK x.a a.k).g.length = z_StG_36 x a
abbrev z_StG_60 (x : GBf) (a : KOM) : Prop := ∀ (i : Nat), z_StG_11 i x a -> z_StG_13 x a i = z_StG_39 x a i /\ z_StG_15 x a i = z_StG_40 x a i /\ z_StG_16 x a i = z_StG_41 x a i
abbrev z_StG_61 (x : GBf) (a : KOM) : Prop := (wK x.a a.k).b.length = z_StG_44 x a
abbrev z_StG_62 (x : GBf) (a : KOM) : Prop := ∀ (i : Nat), z_StG_18 i x a -> z_StG_19 x a i = z_StG_46 x a i
abbrev z_StG_63 (x : GBf) (a : KOM) : Prop := z_StG_36 x a <= (24 : Nat) /\ (∀ (x_1 : Gau), List.Mem x_1 (z_StG_35 x a) -> (0 : Int) <= x_1.st /\ x_1.st <= (2000 : Int) /\ (0 : Int) <= x_1.lo /\ x_1.lo <= x_1.hi /\ x_1.hi <= (200000
 : Int)) /\ z_StG_44 x a <= (24 : Nat) /\ List.Pairwise (λ (x1 x2 : Int) => x1 < x2) (z_StG_43 x a) /\ ∀ (x_1 : Int), List.Mem x_1 (z_StG_43 x a) -> (1 : Int) <= x_1 /\ x_1 <= (2000 : Int)
abbrev z_StG_64 (a : KOM) : Prop := (0 : Int) <= (↑a.k : Int)
abbrev z_StG_65 (a : KOM) (x : GBf) : Prop := (↑a.k : Int) <= (↑(z_StG_44 x a) : Int)
abbrev z_StG_66 (x : GBf) (a : KOM) : Int := (spanM (z_StG_50 x a) (↑a.k : Int)).lo
abbrev z_StG_67 (x : GBf) (a : KOM) : Bk := upB (z_StG_50 x a) (↑a.k : Int)
abbrev z_StG_68 (x : GBf) (a : KOM) : List Gau := (z_StG_67 x a).g
abbrev z_StG_69 (x : GBf) (a : KOM) (i : Nat) : Gau := gD (z_StG_68 x a) i
abbrev z_StG_70 (x : GBf) (a : KOM) : List Int := (z_StG_67 x a).b
abbrev z_StG_71 (x : GBf) (a : KOM) (n : Int) : Bool := (z_StG_67 x a).has n
abbrev z_StG_72 (x : GBf) (a : KOM) : Prop := ∀ (n : Int), z_StG_71 x a n = z_StG_71 x a n
abbrev z_StG_73 (x : GBf) (a : KOM) (n : Int) : Int := (z_StG_67 x a).st n
abbrev z_StG_74 (x : GBf) (a : KOM) : Prop := ∀ (n : Int), z_StG_73 x a n = z_StG_73 x a n
abbrev z_StG_75 (x : GBf) (a : KOM) : Bk := Bk.mk (z_StG_35 x a) (z_StG_43 x a) (z_StG_67 x a).has (z_StG_67 x a).st
abbrev z_StG_76 (x : GBf) (a : KOM) (n : Int) : List Ln := fdM (z_StG_75 x a) n
abbrev z_StG_77 (x : GBf) (a : KOM) (n : Int) : Nat := (z_StG_76 x a n).length
abbrev z_StG_78 (x : GBf) (a : KOM) (n : Int) : List Ln := fdM (z_StG_67 x a) n
abbrev z_StG_79 (x : GBf) (a : KOM) (n : Int) : Nat := (z_StG_78 x a n).length
abbrev z_StG_80 (x : GBf) (a : KOM) (n : Int) (i : Nat) : Ln := gD (z_StG_76 x a n) i
abbrev z_StG_81 (x : GBf) (a : KOM) (n : Int) (i : Nat) : Int := (z_StG_80 x a n i).a0
abbrev z_StG_82 (x : GBf) (a : KOM) (n : Int) (i : Nat) : Ln := gD (z_StG_78 x a n) i
abbrev z_StG_83 (x : GBf) (a : KOM) (n : Int) (i : Nat) : Int := (z_StG_82 x a n i).a0
abbrev z_StG_84 (x : GBf) (a : KOM) (n : Int) (i : Nat) : Int := (z_StG_80 x a n i).a1
abbrev z_StG_85 (x : GBf) (a : KOM) (n : Int) (i : Nat) : Int := (z_StG_82 x a n i).a1
abbrev z_StG_86 (x : GBf) (a : KOM) (n : Int) (i : Nat) : Int := (z_StG_80 x a n i).b0
abbrev z_StG_87 (x : GBf) (a : KOM) (n : Int) (i : Nat) : Int := (z_StG_82 x a n i).b0
abbrev z_StG_88 (x : GBf) (a : KOM) (n : Int) (i : Nat) : Int := (z_StG_80 x a n i).b1
abbrev z_StG_89 (x : GBf) (a : KOM) (n : Int) (i : Nat) : Int := (z_StG_82 x a n i).b1
abbrev z_StG_90 : Prop := (1 : Int) = (1 : Int)
abbrev z_StG_91 (a : KOM) (x : GBf) : Prop := z_StG_34 a /\ z_StG_37 x a /\ z_StG_42 x a /\ z_StG_45 x a /\ z_StG_47 x a /\ z_StG_21 /\ z_StG_72 x a /\ z_StG_74 x a /\ (∀ (n : Int), z_StG_77 x a n = z_StG_79 x a n /\ ∀ (i : Nat),
 i < z_StG_77 x a n -> z_StG_81 x a n i = z_StG_83 x a n i /\ z_StG_84 x a n i = z_StG_85 x a n i /\ z_StG_86 x a n i = z_StG_87 x a n i /\ z_StG_88 x a n i = z_StG_89 x a n i) /\ x.f = x.f /\ z_StG_90 /\ z_StG_59 x a /\ z_StG_60
 x a /\ z_StG_61 x a /\ z_StG_62 x a /\ z_StG_21 /\ z_StG_72 x a /\ z_StG_74 x a /\ (∀ (n : Int), z_StG_79 x a n = z_StG_77 x a n /\ ∀ (i : Nat), i < z_StG_79 x a n -> z_StG_83 x a n i = z_StG_81 x a n i /\ z_StG_85 x a n i =
 z_StG_84 x a n i /\ z_StG_87 x a n i = z_StG_86 x a n i /\ z_StG_89 x a n i = z_StG_88 x a n i) /\ x.f = x.f /\ z_StG_90 /\ z_StG_63 x a /\ z_StG_64 a /\ z_StG_65 a x /\ (z_StG_67 x a).has (↑a.k : Int) = true
abbrev z_StG_92 (x : GBf) (a : KOM) : UpI := UpI.mk (z_StG_75 x a) (↑a.k : Int) (Rt.mk x.f (1 : Int))
abbrev z_StG_93 (x : GBf) (a : KOM) : Int := IntKind.i64.wrap (upM st1 (z_StG_92 x a) + (1 : Int))
abbrev z_StG_94 (x : GBf) (a : KOM) : Int := upM st2 (z_StG_92 x a)
abbrev z_StG_95 (x : GBf) : Prop := z_StG_8 x = z_StG_8 x
abbrev z_StG_96 (a : KOM) (a1 : KOM) : Prop := (↑a.k : Int) = IntKind.i64.wrap ((↑a1.k : Int) + (1 : Int))
abbrev z_StG_97 (x : GBf) (a : KOM) (a1 : KOM) : Prop := (wK x.a a.k).g.length = (wK x.a a1.k).g.length
abbrev z_StG_98 (x : GBf) (a : KOM) (a1 : KOM) : Prop := ∀ (i : Nat), z_StG_11 i x a -> z_StG_13 x a i = z_StG_13 x a1 i /\ z_StG_15 x a i = z_StG_15 x a1 i /\ z_StG_16 x a i = z_StG_16 x a1 i
abbrev z_StG_99 (x : GBf) (a : KOM) (a1 : KOM) : Prop := (wK x.a a.k).b.length = (wK x.a a1.k).b.length
abbrev z_StG_100 (x : GBf) (a : KOM) (a1 : KOM) : Prop := ∀ (i : Nat), z_StG_18 i x a -> z_StG_19 x a i = z_StG_19 x a1 i
abbrev z_StG_101 (x : GBf) (a : KOM) (a1 : KOM) : Prop := ∀ (n : Int), (wK x.a a.k).has n = z_StG_71 x a1 n
abbrev z_StG_102 (x : GBf) (a : KOM) (a1 : KOM) : Prop := ∀ (n : Int), (wK x.a a.k).st n = z_StG_73 x a1 n
abbrev z_StG_103 (x : GBf) (a : KOM) (a1 : KOM) : Prop := ∀ (n : Int), (fdM (wK x.a a.k) n).length = z_StG_79 x a1 n /\ ∀ (i : Nat), z_StG_23 i x a n -> z_StG_25 x a n i = z_StG_83 x a1 n i /\ z_StG_27 x a n i = z_StG_85 x
 a1 n i /\ z_StG_28 x a n i = z_StG_87 x a1 n i /\ z_StG_29 x a n i = z_StG_89 x a1 n i
abbrev z_StG_104 (a : KOM) (x : GBf) (a1 : KOM) : Prop := z_StG_33 a x /\ z_StG_32 x a < z_StG_32 x a1
abbrev z_StG_105 (a : KOM) (x : GBf) (a1 : KOM) : Prop := a.o.hi = z_StG_94 x a1
theorem vc_StG (x : GBf) : (V_StG x) = ((z_StG_1 x = x.a.g.length /\ (∀ (i : Nat), i < z_StG_1 x -> (z_StG_2 x i).st = (gD x.a.g i).st /\ (z_StG_2 x i).lo = (gD x.a.g i).lo /\ (z_StG_2 x i).hi = (gD x.a.g i).hi) /\ z_StG_4 x
 = x.a.b.length /\ (∀ (i : Nat), i < z_StG_4 x -> gD (z_StG_3 x) i = gD x.a.b i) /\ z_StG_1 x < (4611686018427387904 : Nat) /\ z_StG_4 x < (4611686018427387904 : Nat) /\ openE (z_StG_5 x) = (0 : Int)) /\ bif bif (0 : Int) == (0
 : Int) then !inM x.f (0 : Int) (200000 : Int) else false then z_StG_6 x /\ z_StG_7 x /\ (stgM x).snd = (4 : Int) else (∃ (a : KOM), (x.f = x.f /\ a.m = false /\ z_StG_8 x = IntKind.i64.wrap (z_StG_8 x) /\ (↑a.k : Int) = (0 :
 Int) /\ (wK x.a a.k).g.length = (z_StG_10 x).length /\ (∀ (i : Nat), z_StG_11 i x a -> z_StG_13 x a i = (z_StG_14 x i).st /\ z_StG_15 x a i = (z_StG_14 x i).lo /\ z_StG_16 x a i = (z_StG_14 x i).hi) /\ (wK x.a a.k).b.length =
 (z_StG_17 x).length /\ (∀ (i : Nat), z_StG_18 i x a -> z_StG_19 x a i = gD (z_StG_17 x) i) /\ z_StG_21 /\ (∀ (n : Int), (wK x.a a.k).has n = false) /\ (∀ (n : Int), (wK x.a a.k).st n = (z_StG_9 x).st n) /\ (∀ (n : Int), (fdM
 (wK x.a a.k) n).length = (z_StG_22 x n).length /\ ∀ (i : Nat), z_StG_23 i x a n -> z_StG_25 x a n i = (z_StG_26 x n i).a0 /\ z_StG_27 x a n i = (z_StG_26 x n i).a1 /\ z_StG_28 x a n i = (z_StG_26 x n i).b0 /\ z_StG_29 x a n i
 = (z_StG_26 x n i).b1) /\ z_StG_30 /\ z_StG_30 /\ a.o.lo = (0 : Int) /\ a.o.hi = (0 : Int)) /\ z_StG_33 a x) /\ ∀ (a : KOM), z_StG_33 a x -> bif decide ((↑a.k : Int) < z_StG_8 x) then (z_StG_34 a /\ z_StG_37 x a /\ z_StG_42 x a /\
 z_StG_45 x a /\ z_StG_47 x a /\ z_StG_21 /\ z_StG_48 x a /\ z_StG_49 x a /\ z_StG_58 x a /\ z_StG_59 x a /\ z_StG_60 x a /\ z_StG_61 x a /\ z_StG_62 x a /\ z_StG_21 /\ z_StG_48 x a /\ z_StG_49 x a /\ (∀ (n : Int), (fdM (wK x.a a.k)
 n).length = z_StG_52 x a n /\ ∀ (i : Nat), z_StG_23 i x a n -> z_StG_25 x a n i = z_StG_54 x a n i /\ z_StG_27 x a n i = z_StG_55 x a n i /\ z_StG_28 x a n i = z_StG_56 x a n i /\ z_StG_29 x a n i = z_StG_57 x a n i) /\
 (z_StG_63 x a /\ z_StG_64 a /\ z_StG_65 a x) /\ z_StG_34 a /\ z_StG_66 x a = z_StG_66 x a /\ z_StG_37 x a /\ z_StG_42 x a /\ z_StG_45 x a /\ z_StG_47 x a /\ z_StG_21 /\ z_StG_48 x a /\ z_StG_49 x a /\ z_StG_58 x a /\ (wK x.a
 a.k).g.length = (z_StG_68 x a).length /\ (∀ (i : Nat), z_StG_11 i x a -> z_StG_13 x a i = (z_StG_69 x a i).st /\ z_StG_15 x a i = (z_StG_69 x a i).lo /\ z_StG_16 x a i = (z_StG_69 x a i).hi) /\ (wK x.a a.k).b.length =
 (z_StG_70 x a).length /\ (∀ (i : Nat), z_StG_18 i x a -> z_StG_19 x a i = gD (z_StG_70 x a) i) /\ z_StG_63 x a /\ (0 : Int) <= z_StG_66 x a /\ z_StG_66 x a <= (2000 : Int)) /\ bif (↑(lnsM (sB (BkS.mk (z_StG_50 x a) (↑a.k : Int)
 (z_StG_66 x a))) (z_StG_66 x a)).length : Int) == (0 : Int) then z_StG_6 x /\ z_StG_7 x /\ (stgM x).snd = (6 : Int) else z_StG_91 a x /\ z_StG_91 a x /\ bif decide (z_StG_93 x a > z_StG_94 x a) then ∃ (a_2 : KOM), (x.f = x.f
 /\ a_2.m = a.m /\ z_StG_95 x /\ z_StG_96 a_2 a /\ z_StG_97 x a_2 a /\ z_StG_98 x a_2 a /\ z_StG_99 x a_2 a /\ z_StG_100 x a_2 a /\ z_StG_21 /\ z_StG_101 x a_2 a /\ z_StG_102 x a_2 a /\ z_StG_103 x a_2 a /\ z_StG_30 /\ z_StG_30 /\
 a_2.o.lo = a.o.lo /\ a_2.o.hi = a.o.hi) /\ z_StG_104 a_2 x a else bif !a.m then ∃ (a_2 : KOM), (x.f = x.f /\ a_2.m = true /\ z_StG_95 x /\ z_StG_96 a_2 a /\ z_StG_97 x a_2 a /\ z_StG_98 x a_2 a /\ z_StG_99 x a_2 a /\ z_StG_100 x
 a_2 a /\ z_StG_21 /\ z_StG_101 x a_2 a /\ z_StG_102 x a_2 a /\ z_StG_103 x a_2 a /\ z_StG_30 /\ z_StG_30 /\ a_2.o.lo = z_StG_93 x a /\ z_StG_105 a_2 x a) /\ z_StG_104 a_2 x a else ∃ (a_2 : KOM), (x.f = x.f /\ a_2.m = a.m /\
 z_StG_95 x /\ z_StG_96 a_2 a /\ z_StG_97 x a_2 a /\ z_StG_98 x a_2 a /\ z_StG_99 x a_2 a /\ z_StG_100 x a_2 a /\ z_StG_21 /\ z_StG_101 x a_2 a /\ z_StG_102 x a_2 a /\ z_StG_103 x a_2 a /\ z_StG_30 /\ z_StG_30 /\ a_2.o.lo = a.o.lo /\
 z_StG_105 a_2 x a) /\ z_StG_104 a_2 x a else bif !a.m then z_StG_6 x /\ z_StG_7 x /\ (stgM x).snd = (5 : Int) else (stgM x).fst.lo = a.o.lo /\ (stgM x).fst.hi = a.o.hi /\ (stgM x).snd = (0 : Int)) := by kernel_rfl
def V_StX (x : GBf) : Prop := fnVC Try.prog A_StX F_Stages (bodyOf F_Stages) (xGBf x) (heapOf []) (C_Stages.val x) [] [] []
theorem vc_StX (x : GBf) : (V_StX x) = (((rng x.a.g.length λ (i : Nat) => gD x.a.g i).length = x.a.g.length /\ (∀ (i : Nat), i < (rng x.a.g.length λ (i : Nat) => gD x.a.g i).length -> (gD (rng x.a.g.length λ (i :
 Nat) => gD x.a.g i) i).st = (gD x.a.g i).st /\ (gD (rng x.a.g.length λ (i : Nat) => gD x.a.g i) i).lo = (gD x.a.g i).lo /\ (gD (rng x.a.g.length λ (i : Nat) => gD x.a.g i) i).hi = (gD x.a.g i).hi) /\ (rng x.a.b.length
 λ (i : Nat) => gD x.a.b i).length = x.a.b.length /\ (∀ (i : Nat), i < (rng x.a.b.length λ (i : Nat) => gD x.a.b i).length -> gD (rng x.a.b.length λ (i : Nat) => gD x.a.b i) i = gD x.a.b i) /\ (rng x.a.g.length λ (i
 : Nat) => gD x.a.g i).length < 4611686018427387904 /\ (rng x.a.b.length λ (i : Nat) => gD x.a.b i).length < 4611686018427387904 /\ openE (GB.mk (rng x.a.g.length λ (i : Nat) => gD x.a.g i) (rng x.a.b.length λ (i :
 Nat) => gD x.a.b i)) ≠ 0) /\ bif bif openE (GB.mk (rng x.a.g.length λ (i : Nat) => gD x.a.g i) (rng x.a.b.length λ (i : Nat) => gD x.a.b i)) == 0 then !inM x.f 0 200000 else false then ((stgM x).fst.lo = 0 /\ (stgM
 x).fst.hi = 0 /\ (stgM x).snd = 4) /\ True else (bif openE (GB.mk (rng x.a.g.length λ (i : Nat) => gD x.a.g i) (rng x.a.b.length λ (i : Nat) => gD x.a.b i)) != 0 then (stgM x).fst.lo = 0 /\ (stgM x).fst.hi = 0 /\ (stgM
 x).snd = openE (GB.mk (rng x.a.g.length λ (i : Nat) => gD x.a.g i) (rng x.a.b.length λ (i : Nat) => gD x.a.b i)) else False) /\ True) := by kernel_rfl
theorem upL_in {pr : Int -> Bool} : ∀ (n : Nat) (lo hi : Int), lo <= hi -> lo <= upL pr n lo hi /\ upL pr n lo hi <= hi
 | 0, lo, hi, h => ⟨Int.le_refl _, h⟩
 | n + 1, lo, hi, h => by
  unfold upL
  by_cases hl : lo < hi
  ·obtain ⟨h3, h4⟩ := mid_in hl
   rw [decide_eq_true hl]
   cases pr (lo + (hi - lo + 1).tdiv 2)
   ·have := upL_in (pr := pr) n lo (lo + (hi - lo + 1).tdiv 2 - 1) (by omega); exact ⟨this.1, by have := this.2; show upL _ _ _ _ <= _; omega⟩
   ·have := upL_in (pr := pr) n (lo + (hi - lo + 1).tdiv 2) hi h4; exact ⟨by have := this.1; show _ <= upL _ _ _ _; omega, this.2⟩
  ·rw [decide_eq_false hl]; exact ⟨Int.le_refl _, h⟩
theorem upM_in {v : BnF -> Bool} {a : UpI} (h : bkOk a.w.g a.w.b) (h1 : 0 <= a.k) (h2 : a.k <= a.w.b.length) : (spanM a.w a.k).lo - 1 <= upM v a /\ upM v a <= (spanM a.w a.k).hi /\ -1 <= upM v a /\ upM v a <= 2000 := by
 obtain ⟨s1, s2, s3, _⟩ := span_ok h h1 h2
 obtain ⟨i1, i2⟩ := upL_in (pr := upP v a) 3000 ((spanM a.w a.k).lo - 1) (spanM a.w a.k).hi (by omega)
 unfold upM; omega
theorem p_StG (x : GBf) (h : preB x.a) (hE : openE x.a = 0) : V_StG x := by
 rw [vc_StG]; delta z_StG_0 z_StG_1 z_StG_2 z_StG_3 z_StG_4 z_StG_5 z_StG_6 z_StG_7 z_StG_8 z_StG_9 z_StG_10 z_StG_11 z_StG_12 z_StG_13 z_StG_14 z_StG_15 z_StG_16 z_StG_17 z_StG_18 z_StG_19 z_StG_20 z_StG_21 z_StG_22 z_StG_23 z_StG_24 z_StG_25 z_StG_26 z_StG_27 z_StG_28 z_StG_29 z_StG_30 z_StG_31 z_StG_32 z_StG_33 z_StG_34 z_StG_35 z_StG_36 z_StG_37 z_StG_38 z_StG_39 z_StG_40 z_StG_41 z_StG_42 z_StG_43 z_StG_44 z_StG_45 z_StG_46 z_StG_47 z_StG_48 z_StG_49 z_StG_50 z_StG_51 z_StG_52 z_StG_53 z_StG_54 z_StG_55 z_StG_56 z_StG_57 z_StG_58 z_StG_59 z_StG_60 z_StG_61 z_StG_62 z_StG_63 z_StG_64 z_StG_65 z_StG_66 z_StG_67 z_StG_68 z_StG_69 z_StG_70 z_StG_71 z_StG_72 z_StG_73 z_StG_74 z_StG_75 z_StG_76 z_StG_77 z_StG_78 z_StG_79 z_StG_80 z_StG_81 z_StG_82 z_StG_83 z_StG_84 z_StG_85 z_StG_86 z_StG_87 z_StG_88 z_StG_89 z_StG_90 z_StG_91 z_StG_92 z_StG_93 z_StG_94 z_StG_95 z_StG_96 z_StG_97 z_StG_98 z_StG_99 z_StG_100 z_StG_101 z_StG_102 z_StG_103 z_StG_104 z_StG_105; simp only [condP, eq_self, implies_true, and_self, true_and, and_true, true_implies, forall_const, decide_eq_true_eq, decide_eq_false_iff_not, Int.toNat_natCast, dSpan_eSpan, dInt_eInt, dGau_e, dPt_e, dLn_e, dRt_e, Nat.zero_add, Int.zero_sub, Nat.le_eq, Nat.succ_eq_add_one, Nat.add_one_le_iff, Bool.not_eq_true', Bool.not_eq_false', rng_length, dSpan_mk, rng_getD, bk_eta, upB_eta, upB_g, upB_b, bkT_eta, if_true]
 have hb : bkOk x.a.g x.a.b := open_ok hE
 have hl24 : x.a.b.length <= 24 := hb.2.2.1
 have e0 : openE x.a == 0 := by rw [hE]; rfl
 refine ⟨⟨h.1, h.2, hE⟩, λ hf => ?_, λ hf => ⟨⟨⟨0, default, false⟩, ⟨rfl, (w64 (by omega) (by omega)).symm, rfl, rfl, λ _ _ => ⟨rfl, rfl, rfl⟩, rfl, λ _ _ => rfl, λ _ => rfl, λ _ => rfl, λ _ => ⟨rfl, λ _ _ => ⟨rfl, rfl, rfl, rfl⟩⟩, rfl, rfl⟩, Nat.zero_le _, ?_⟩, λ y ⟨hy1, hy2⟩ => ⟨λ hlt => ?_, λ hge => ?_⟩⟩⟩
 ·have e : stgM x = (default, 4) := by
   have hf : (!inF x) = true := hf
   unfold stgM; rw [e0, show inF x = false by simpa using hf]; rfl
  rw [e]; exact ⟨rfl, rfl, rfl⟩
 ·have hf : (!inF x) = false := hf
  show stgM x = _
  unfold stgM; rw [e0, show inF x = true by simpa using hf]; rfl
 ·have hlt : y.k <= x.a.b.length := by omega
  have hs := span_ok (w := wK x.a y.k) (k := y.k) hb (by omega) (by show (y.k : Int) <= (x.a.b.length : Nat); omega)
  have hkk : (0 : Int) <= (y.k : Int) /\ (y.k : Int) <= ((wK x.a y.k).b.length : Nat) := ⟨by omega, by show (y.k : Int) <= (x.a.b.length : Nat); omega⟩
  have hup : (upB (wK x.a y.k) y.k).has y.k = true := by show hasUp _ _ _ = true; simp [hasUp]
  obtain ⟨n, hn⟩ : ∃ n, x.a.b.length + 1 - y.k = n + 1 := ⟨x.a.b.length - y.k, by omega⟩
  have hn2 : x.a.b.length + 1 - (y.k + 1) = n := by omega
  have hn3 : x.a.b.length + 1 - (y.k + 1) < x.a.b.length + 1 - y.k := by omega
  have key := hy2
  rw [hn] at key; unfold stgS at key
  have u1 := upM_in (v := st1) (a := ⟨upB (wK x.a y.k) y.k, y.k, ⟨x.f, 1⟩⟩) hb hkk.1 hkk.2
  have e1 : IntKind.i64.wrap (upM st1 ⟨upB (wK x.a y.k) y.k, y.k, ⟨x.f, 1⟩⟩ + 1) = stF x y.k := w64 (by omega) (by omega)
  have e2 : upM st2 ⟨upB (wK x.a y.k) y.k, y.k, ⟨x.f, 1⟩⟩ = stL x y.k := rfl
  rw [e1, e2]
  have ek : ((y.k + 1 : Nat) : Int) = IntKind.i64.wrap ((y.k : Int) + 1) := by rw [w64 (by omega) (by omega)]; rfl
  refine ⟨⟨⟨hb, hkk⟩, hb, hs.1, by omega⟩, λ hc => ?_, λ hc => ⟨⟨hb, hkk.1, hkk.2, hup⟩, ⟨hb, hkk.1, hkk.2, hup⟩, λ hg => ?_, λ hg => ⟨λ hm => ?_, λ hm => ?_⟩⟩⟩
  ·have hc : ((lnK x.a y.k).length : Int) == 0 := hc
   rw [decide_eq_true (show (lnK x.a y.k).length = 0 by have := eq_of_beq hc; omega)] at key
   rw [key]; exact ⟨rfl, rfl, rfl⟩
  all_goals
   have hc : (((lnK x.a y.k).length : Int) == 0) = false := hc
   rw [decide_eq_false (show ¬(lnK x.a y.k).length = 0 by intro h0; rw [h0] at hc; cases hc)] at key
  ·rw [decide_eq_true (show stL x y.k < stF x y.k from hg)] at key
   exact ⟨⟨y.k + 1, y.o, y.m⟩, ⟨rfl, ek, rfl, λ _ _ => ⟨rfl, rfl, rfl⟩, rfl, λ _ _ => rfl, λ _ => rfl, λ _ => rfl, λ _ => ⟨rfl, λ _ _ => ⟨rfl, rfl, rfl, rfl⟩⟩, rfl, rfl⟩, ⟨by show y.k + 1 <= _; omega, by show stgM x = stgS x (x.a.b.length + 1 - (y.k + 1)) _ _ _; rw [hn2]; exact key⟩, hn3⟩
  ·rw [decide_eq_false (show ¬stL x y.k < stF x y.k from hg), hm] at key
   exact ⟨⟨y.k + 1, ⟨stF x y.k, stL x y.k⟩, true⟩, ⟨rfl, ek, rfl, λ _ _ => ⟨rfl, rfl, rfl⟩, rfl, λ _ _ => rfl, λ _ => rfl, λ _ => rfl, λ _ => ⟨rfl, λ _ _ => ⟨rfl, rfl, rfl, rfl⟩⟩, rfl, rfl⟩, ⟨by show y.k + 1 <= _; omega, by show stgM x = stgS x (x.a.b.length + 1 - (y.k + 1)) _ _ _; rw [hn2]; exact key⟩, hn3⟩
  ·rw [decide_eq_false (show ¬stL x y.k < stF x y.k from hg), hm] at key
   exact ⟨⟨y.k + 1, ⟨y.o.lo, stL x y.k⟩, true⟩, ⟨hm.symm, ek, rfl, λ _ _ => ⟨rfl, rfl, rfl⟩, rfl, λ _ _ => rfl, λ _ => rfl, λ _ => rfl, λ _ => ⟨rfl, λ _ _ => ⟨rfl, rfl, rfl, rfl⟩⟩, rfl, rfl⟩, ⟨by show y.k + 1 <= _; omega, by show stgM x = stgS x (x.a.b.length + 1 - (y.k + 1)) _ _ _; rw [hn2]; exact key⟩, hn3⟩
 ·have hk : x.a.b.length + 1 - y.k = 0 := by omega
  rw [hk] at hy2; unfold stgS at hy2
  refine ⟨λ hm => ?_, λ hm => ?_⟩ <;> rw [hm] at hy2 <;> rw [hy2] <;> exact ⟨rfl, rfl, rfl⟩
theorem p_StX (x : GBf) (h : preB x.a) (hE : openE x.a ≠ 0) : V_StX x := by
 rw [vc_StX]; simp only [condP, eq_self, implies_true, and_self, true_and, and_true, true_implies, forall_const, decide_eq_true_eq, decide_eq_false_iff_not, Int.toNat_natCast, dSpan_eSpan, dInt_eInt, dGau_e, dPt_e, dLn_e, dRt_e, Nat.zero_add, Int.zero_sub, Nat.le_eq, Nat.succ_eq_add_one, Nat.add_one_le_iff, Bool.not_eq_true', Bool.not_eq_false', rng_length, dSpan_mk, rng_getD, bk_eta, upB_eta, upB_g, upB_b, bkT_eta, if_true]
 have hE : openE ⟨x.a.g, x.a.b⟩ ≠ 0 := hE
 have e0 : (openE ⟨x.a.g, x.a.b⟩ == 0) = false := by simpa using hE
 rw [e0]
 refine ⟨⟨h.1, h.2, hE⟩, λ hc => (by cases hc), λ _ => ⟨λ _ => ?_, λ hc => ?_⟩⟩
 ·have e : stgM x = (default, openE x.a) := by unfold stgM; rw [show (openE x.a == 0) = false from e0]; rfl
  rw [e]; exact ⟨rfl, rfl, rfl⟩
 ·exact hE (by simpa using hc)
theorem ok_Stages : SpecOk Try.prog n_Stages (C_Stages.spec dGBf) := Ctr.spec_ok (C := C_Stages) (λ (x : GBf) h => by
 have h : preB x.a := (show preB x.a /\ True from h).1
 by_cases hE : openE x.a = 0
 ·exact fnt (A := A_StG x) (L := []) (keep := []) (ren := []) (fz := []) fn_Stages (by kernel_rfl) (gok_cons ok_open (gok_cons ok_in (gok_cons ok_span (gok_cons ok_lns (gok_cons (orS_ok ok_up1 ok_up2) gok_nil))))) (p_StG x h hE)
 ·exact fnt (A := A_StX) (L := []) (keep := []) (ren := []) (fz := []) fn_Stages (by kernel_rfl) (gok_cons ok_openX (gok_cons ok_in (gok_cons ok_span (gok_cons ok_lns (gok_cons (orS_ok ok_up1 ok_up2) gok_nil))))) (p_StX x h hE)) _
end Go.Bal
