/- Package chart: the greatest stages from a time to another one. -/
import Derived.Test.YtdbjalgfomknhaaChI
set_option linter.unusedVariables false
set_option linter.unusedSimpArgs false
namespace Go.Bal
open Go Go.Sym Go.Proofs
structure CZ2 where
 a : CZ
 f : Int
 t : Int
structure IJ where
 i : Nat
 j : Nat
 deriving Inhabited
def dCZ2 : List AVal -> Heap -> Option (CZ2 × List (Nat × Nat) × List Nat)
 | [x, y, .d f, .d t], H => match dChtA x H, dInts y H with
  | some (c, g), some (l, e) => some (⟨⟨c, l⟩, dInt f, dInt t⟩, [], g ++ e)
  | _, _ => none
 | _, _ => none
def xCZ2 (x : CZ2) : List AVal := [.d (eCht x.a.c), .d (eIntsL x.a.z), .int x.f, .int x.t]
def pkF (x : CZ2) : Int := maxI x.f (-100000001)
def pkT (x : CZ2) : Int := minI x.t 100000001
def winOk (x : CZ2) (a b : Nat) : Bool := (narL (begD x.a) (winL (tmL x.a) (a : Int) (b : Int) (pkF x) (pkT x))).all leM
def sliS (x : CZ2) (a b : Nat) : List Span := rng (b + 1 - a) λ i => gD (stgL x.a.c) (a + i)
def pkI (x : CZ2) (a : Nat) (h : Hul) : Nat -> Hul
 | 0 => h
 | k + 1 => bif winOk x a (a + k) then hadM (pkI x a h k) ⟨gLo (sliS x a (a + k)), gHi (sliS x a (a + k))⟩ else pkI x a h k
def pkO (x : CZ2) : Nat -> Hul
 | 0 => zHul
 | a + 1 => bif decide (pkT x >= pkF x) then pkI x a (pkO x a) (x.a.c.ms.length - a) else pkO x a
def peakO (x : CZ2) : Span × Int := bif decide (x.t < x.f) then (⟨0, 0⟩, 4) else whoM (pkO x x.a.c.ms.length)
def peakV (x : CZ2) : Span × Int := bif readE x.a == 0 then peakO x else (⟨0, 0⟩, readE x.a)
def C_Peak : Ctr := { α := CZ2, xs := xCZ2, val := λ x => .tup [.d (eSpan (peakV x).1), .int (peakV x).2], keep := λ _ => [], pre := λ x => [x.a.c.ms.length < 4611686018427387904 /\ x.a.c.ns.length < 4611686018427387904 /\ x.a.z.length < 4611686018427387904] }
def pkS (x : CZ2) (a : Nat) : List (Nat × AVal) := [(2, .int (pkF x)), (3, .int (pkT x)), (8, .bptr 202 0), (10, .bptr 208 0), (11, .d (eSpans (tmL x.a))), (12, .d (eSpans (stgL x.a.c))), (14, .bptr 206 0), (42, .int x.a.c.ms.length), (43, .int a)]
def pkH (x : CZ2) (h : Hul) : List (Nat × HCell) := [(202, .live (.box [.int 0, .int 0])), (206, .live (hlB h)), (208, .live (dkB (begD x.a) 209)), (209, .live (dkM (begD x.a)))]
def pk9 (x : CZ2) : Shape := { α := Nat, dflt := 0, T := λ a => ⟨pkS x a, pkH x (pkO x a)⟩, inv := λ a => a <= x.a.c.ms.length, meas := λ a => x.a.c.ms.length - a, first := [(202, 1016), (206, 8000), (208, 2032), (209, 2033)] }
def pk12 (x : CZ2) (m : Nat) : Shape := { α := IJ, dflt := default, T := λ s => ⟨[(15, .int s.i), (16, .int s.j)] ++ pkS x s.i, pkH x (pkI x s.i (pkO x s.i) (s.j - s.i))⟩, inv := λ s => s.i < x.a.c.ms.length /\ x.a.c.ms.length - s.i = m /\ s.i <= s.j /\ s.j <= x.a.c.ms.length /\ (s.i < s.j -> pkT x >= pkF x), meas := λ s => x.a.c.ms.length - s.j }
def A_Peak (x : CZ2) : Ann := { ann 91 [(n_read, C_rdO.spec dCZ), (n_within, C_win.spec dDkW), (n_narrowed, C_nar.spec dDkS), (n_least, C_least.spec dN0c), (n_most, C_most.spec dN0c), (n_greatest, orS (C_grL.spec d_grL) (C_grH.spec d_grH)), (n_hadd, C_hadd.spec dHuS), (n_whole, C_who.spec dHu1)] with loops := λ id => if id = 9 then some [pk9 x] else none, inner := λ gs id => if id = 12 then some [pk12 x (gs.getD 0 0)] else none }
def A_PeakX : Ann := ann 91 [(n_read, C_rdX.spec dCZ)]
def V_Peak (x : CZ2) : Prop := fnVC Try.prog (A_Peak x) F_Peak (bodyOf F_Peak) (xCZ2 x) (heapOf []) (.tup [.d (eSpan (peakO x).1), .int (peakO x).2]) [] [] []
abbrev z_Peak_0 (x : CZ2) : List Mk := rng x.a.c.ms.length λ (i : Nat) => gD x.a.c.ms i
abbrev z_Peak_1 (x : CZ2) : Nat := (z_Peak_0 x).length
abbrev z_Peak_2 (x : CZ2) (i : Nat) : Mk := gD (z_Peak_0 x) i
abbrev z_Peak_3 (x : CZ2) : List Nt := rng x.a.c.ns.length λ (i : Nat) => gD x.a.c.ns i
abbrev z_Peak_4 (x : CZ2) : Nat := (z_Peak_3 x).length
abbrev z_Peak_5 (x : CZ2) (i : Nat) : Nt := gD (z_Peak_3 x) i
abbrev z_Peak_6 (x : CZ2) (i : Nat) : Span := (z_Peak_5 x i).t
abbrev z_Peak_7 (x : CZ2) (i : Nat) : Span := (z_Peak_5 x i).s
abbrev z_Peak_8 (x : CZ2) : List Int := rng x.a.z.length λ (i : Nat) => gD x.a.z i
abbrev z_Peak_9 (x : CZ2) : Nat := (z_Peak_8 x).length
abbrev z_Peak_10 (x : CZ2) : Cht := Cht.mk x.a.c.p x.a.c.base x.a.c.scale x.a.c.off (z_Peak_0 x) (z_Peak_3 x)
abbrev z_Peak_11 (x : CZ2) : CZ := CZ.mk (z_Peak_10 x) (z_Peak_8 x)
abbrev z_Peak_12 (x : CZ2) : Dk := begD (z_Peak_11 x)
abbrev z_Peak_13 (x : CZ2) : List Span := (timesV (z_Peak_12 x)).fst
abbrev z_Peak_14 (x : CZ2) : Nat := (z_Peak_13 x).length
abbrev z_Peak_15 (x : CZ2) (i : Nat) : Span := gD (z_Peak_13 x) i
abbrev z_Peak_16 (x : CZ2) : List Span := stgL (z_Peak_10 x)
abbrev z_Peak_17 (i : Nat) (x : CZ2) : Prop := i < (stgL x.a.c).length
abbrev z_Peak_18 (x : CZ2) (i : Nat) : Span := gD (z_Peak_16 x) i
abbrev z_Peak_19 : Prop := Int.ofNat (0 : Nat) = Int.ofNat (0 : Nat)
abbrev z_Peak_20 (x : CZ2) : Cht := (z_Peak_12 x).c
abbrev z_Peak_21 (x : CZ2) : Span := (z_Peak_20 x).p
abbrev z_Peak_22 (x : CZ2) : List Mk := (z_Peak_20 x).ms
abbrev z_Peak_23 (i : Nat) (x : CZ2) : Prop := i < (begD x.a).c.ms.length
abbrev z_Peak_24 (x : CZ2) (i : Nat) : Int := (gD (begD x.a).c.ms i).pl
abbrev z_Peak_25 (x : CZ2) (i : Nat) : Mk := gD (z_Peak_22 x) i
abbrev z_Peak_26 (x : CZ2) (i : Nat) : Int := (gD (begD x.a).c.ms i).ht
abbrev z_Peak_27 (x : CZ2) : List Nt := (z_Peak_20 x).ns
abbrev z_Peak_28 (i : Nat) (x : CZ2) : Prop := i < (begD x.a).c.ns.length
abbrev z_Peak_29 (x : CZ2) (i : Nat) : Int := (gD (begD x.a).c.ns i).mi
abbrev z_Peak_30 (x : CZ2) (i : Nat) : Nt := gD (z_Peak_27 x) i
abbrev z_Peak_31 (x : CZ2) (i : Nat) : Span := (gD (begD x.a).c.ns i).t
abbrev z_Peak_32 (x : CZ2) (i : Nat) : Int := (z_Peak_31 x i).lo
abbrev z_Peak_33 (x : CZ2) (i : Nat) : Span := (z_Peak_30 x i).t
abbrev z_Peak_34 (x : CZ2) (i : Nat) : Int := (z_Peak_31 x i).hi
abbrev z_Peak_35 (x : CZ2) (i : Nat) : Span := (gD (begD x.a).c.ns i).s
abbrev z_Peak_36 (x : CZ2) (i : Nat) : Int := (z_Peak_35 x i).lo
abbrev z_Peak_37 (x : CZ2) (i : Nat) : Span := (z_Peak_30 x i).s
abbrev z_Peak_38 (x : CZ2) (i : Nat) : Int := (z_Peak_35 x i).hi
abbrev z_Peak_39 (x : CZ2) (n : Int) : Nt := ntOf (z_Peak_27 x) n
abbrev z_Peak_40 (x : CZ2) (n : Int) : Span := (z_Peak_39 x n).t
abbrev z_Peak_41 (x : CZ2) (n : Int) : Span := (z_Peak_39 x n).s
abbrev z_Peak_42 (a : IJ) (a1 : Nat) : Prop := (↑a.i : Int) = (↑a1 : Int)
abbrev z_Peak_43 (x : CZ2) : Prop := (tmL x.a).length = (tmL x.a).length
abbrev z_Peak_44 (x : CZ2) : Prop := ∀ (i : Nat), i < (tmL x.a).length -> (gD (tmL x.a) i).lo = (gD (tmL x.a) i).lo /\ (gD (tmL x.a) i).hi = (gD (tmL x.a) i).hi
abbrev z_Peak_45 (x : CZ2) : Prop := (stgL x.a.c).length = (stgL x.a.c).length
abbrev z_Peak_46 (x : CZ2) : Prop := ∀ (i : Nat), z_Peak_17 i x -> (gD (stgL x.a.c) i).lo = (gD (stgL x.a.c) i).lo /\ (gD (stgL x.a.c) i).hi = (gD (stgL x.a.c) i).hi
abbrev z_Peak_47 (x : CZ2) : Prop := (↑x.a.c.ms.length : Int) = (↑x.a.c.ms.length : Int)
abbrev z_Peak_48 (x : CZ2) (a : IJ) : Hul := pkI x a.i (pkO x a.i) (a.j - a.i)
abbrev z_Peak_49 (x : CZ2) (a : IJ) : Span := (z_Peak_48 x a).s
abbrev z_Peak_50 (x : CZ2) (a : IJ) : Int := (z_Peak_49 x a).lo
abbrev z_Peak_51 (x : CZ2) (a : IJ) : Int := (z_Peak_49 x a).hi
abbrev z_Peak_52 (x : CZ2) (a : IJ) : Bool := (z_Peak_48 x a).m
abbrev z_Peak_53 (x : CZ2) : Prop := (begD x.a).c.p.lo = (begD x.a).c.p.lo
abbrev z_Peak_54 (x : CZ2) : Prop := (begD x.a).c.p.hi = (begD x.a).c.p.hi
abbrev z_Peak_55 (x : CZ2) : Prop := (begD x.a).c.base = (begD x.a).c.base
abbrev z_Peak_56 (x : CZ2) : Prop := (begD x.a).c.scale = (begD x.a).c.scale
abbrev z_Peak_57 (x : CZ2) : Prop := (begD x.a).c.off = (begD x.a).c.off
abbrev z_Peak_58 (x : CZ2) : Prop := ∀ (i : Nat), i < (40 : Nat) -> (begD x.a).sp i = (begD x.a).sp i
abbrev z_Peak_59 (x : CZ2) : Prop := ∀ (n : Int), (begD x.a).st n = (begD x.a).st n
abbrev z_Peak_60 (x : CZ2) : Prop := z_Peak_53 x /\ z_Peak_54 x /\ z_Peak_55 x /\ z_Peak_56 x /\ z_Peak_57 x /\ (begD x.a).c.ms.length = (begD x.a).c.ms.length /\ (∀ (i : Nat), z_Peak_23 i x -> z_Peak_24 x i = z_Peak_24 x i /\
 z_Peak_26 x i = z_Peak_26 x i) /\ (begD x.a).c.ns.length = (begD x.a).c.ns.length /\ (∀ (i : Nat), z_Peak_28 i x -> z_Peak_29 x i = z_Peak_29 x i /\ z_Peak_32 x i = z_Peak_32 x i /\ z_Peak_34 x i = z_Peak_34 x i /\ z_Peak_36 x
 i = z_Peak_36 x i /\ z_Peak_38 x i = z_Peak_38 x i) /\ z_Peak_58 x /\ zNt = zNt /\ (∀ (n : Int), hasN (begD x.a).c.ns n = hasN (begD x.a).c.ns n) /\ z_Peak_59 x /\ ∀ (n : Int), (ntOf (begD x.a).c.ns n).mi = (ntOf (begD
 x.a).c.ns n).mi /\ (ntOf (begD x.a).c.ns n).t.lo = (ntOf (begD x.a).c.ns n).t.lo /\ (ntOf (begD x.a).c.ns n).t.hi = (ntOf (begD x.a).c.ns n).t.hi /\ (ntOf (begD x.a).c.ns n).s.lo = (ntOf (begD x.a).c.ns n).s.lo /\ (ntOf
 (begD x.a).c.ns n).s.hi = (ntOf (begD x.a).c.ns n).s.hi
abbrev z_Peak_61 (x : CZ2) (a : Nat) : Nat := x.a.c.ms.length - a
abbrev z_Peak_62 (a : IJ) (x : CZ2) (a1 : Nat) : Prop := a.i < x.a.c.ms.length /\ x.a.c.ms.length - a.i = z_Peak_61 x a1 /\ a.i <= a.j /\ a.j <= x.a.c.ms.length /\ (a.i < a.j -> pkT x >= pkF x)
abbrev z_Peak_63 (x : CZ2) : List Span := rng (tmL x.a).length λ (i : Nat) => gD (tmL x.a) i
abbrev z_Peak_64 (x : CZ2) : Nat := (z_Peak_63 x).length
abbrev z_Peak_65 (x : CZ2) (i : Nat) : Span := gD (z_Peak_63 x) i
abbrev z_Peak_66 (x : CZ2) : List Mk := rng (begD x.a).c.ms.length λ (i : Nat) => gD (begD x.a).c.ms i
abbrev z_Peak_67 (x : CZ2) : Nat := (z_Peak_66 x).length
abbrev z_Peak_68 (x : CZ2) : Prop := z_Peak_67 x = (begD x.a).c.ms.length
abbrev z_Peak_69 (x : CZ2) (i : Nat) : Mk := gD (z_Peak_66 x) i
abbrev z_Peak_70 (x : CZ2) (i : Nat) : Int := (z_Peak_69 x i).pl
abbrev z_Peak_71 (x : CZ2) (i : Nat) : Int := (z_Peak_69 x i).ht
abbrev z_Peak_72 (x : CZ2) : Prop := ∀ (i : Nat), i < z_Peak_67 x -> z_Peak_70 x i = z_Peak_24 x i /\ z_Peak_71 x i = z_Peak_26 x i
abbrev z_Peak_73 (x : CZ2) : List Nt := rng (begD x.a).c.ns.length λ (i : Nat) => gD (begD x.a).c.ns i
abbrev z_Peak_74 (x : CZ2) : Nat := (z_Peak_73 x).length
abbrev z_Peak_75 (x : CZ2) : Prop := z_Peak_74 x = (begD x.a).c.ns.length
abbrev z_Peak_76 (x : CZ2) (i : Nat) : Nt := gD (z_Peak_73 x) i
abbrev z_Peak_77 (x : CZ2) (i : Nat) : Int := (z_Peak_76 x i).mi
abbrev z_Peak_78 (x : CZ2) (i : Nat) : Span := (z_Peak_76 x i).t
abbrev z_Peak_79 (x : CZ2) (i : Nat) : Int := (z_Peak_78 x i).lo
abbrev z_Peak_80 (x : CZ2) (i : Nat) : Int := (z_Peak_78 x i).hi
abbrev z_Peak_81 (x : CZ2) (i : Nat) : Span := (z_Peak_76 x i).s
abbrev z_Peak_82 (x : CZ2) (i : Nat) : Int := (z_Peak_81 x i).lo
abbrev z_Peak_83 (x : CZ2) (i : Nat) : Int := (z_Peak_81 x i).hi
abbrev z_Peak_84 (x : CZ2) : Prop := ∀ (i : Nat), i < z_Peak_74 x -> z_Peak_77 x i = z_Peak_29 x i /\ z_Peak_79 x i = z_Peak_32 x i /\ z_Peak_80 x i = z_Peak_34 x i /\ z_Peak_82 x i = z_Peak_36 x i /\ z_Peak_83 x i =
 z_Peak_38 x i
abbrev z_Peak_85 (x : CZ2) (n : Int) : Bool := hasN (z_Peak_73 x) n
abbrev z_Peak_86 (x : CZ2) : Prop := ∀ (n : Int), z_Peak_85 x n = hasN (begD x.a).c.ns n
abbrev z_Peak_87 (x : CZ2) (n : Int) : Nt := ntOf (z_Peak_73 x) n
abbrev z_Peak_88 (x : CZ2) (n : Int) : Int := (z_Peak_87 x n).mi
abbrev z_Peak_89 (x : CZ2) (n : Int) : Span := (z_Peak_87 x n).t
abbrev z_Peak_90 (x : CZ2) (n : Int) : Int := (z_Peak_89 x n).lo
abbrev z_Peak_91 (x : CZ2) (n : Int) : Int := (z_Peak_89 x n).hi
abbrev z_Peak_92 (x : CZ2) (n : Int) : Span := (z_Peak_87 x n).s
abbrev z_Peak_93 (x : CZ2) (n : Int) : Int := (z_Peak_92 x n).lo
abbrev z_Peak_94 (x : CZ2) (n : Int) : Int := (z_Peak_92 x n).hi
abbrev z_Peak_95 (x : CZ2) : Prop := ∀ (n : Int), z_Peak_88 x n = (ntOf (begD x.a).c.ns n).mi /\ z_Peak_90 x n = (ntOf (begD x.a).c.ns n).t.lo /\ z_Peak_91 x n = (ntOf (begD x.a).c.ns n).t.hi /\ z_Peak_93 x n = (ntOf (begD
 x.a).c.ns n).s.lo /\ z_Peak_94 x n = (ntOf (begD x.a).c.ns n).s.hi
abbrev z_Peak_96 (x : CZ2) : Prop := (begD x.a).c.ms.length = z_Peak_67 x
abbrev z_Peak_97 (x : CZ2) : Prop := ∀ (i : Nat), z_Peak_23 i x -> z_Peak_24 x i = z_Peak_70 x i /\ z_Peak_26 x i = z_Peak_71 x i
abbrev z_Peak_98 (x : CZ2) : Prop := (begD x.a).c.ns.length = z_Peak_74 x
abbrev z_Peak_99 (x : CZ2) : Prop := ∀ (i : Nat), z_Peak_28 i x -> z_Peak_29 x i = z_Peak_77 x i /\ z_Peak_32 x i = z_Peak_79 x i /\ z_Peak_34 x i = z_Peak_80 x i /\ z_Peak_36 x i = z_Peak_82 x i /\ z_Peak_38 x i = z_Peak_83
 x i
abbrev z_Peak_100 (x : CZ2) : Prop := ∀ (n : Int), hasN (begD x.a).c.ns n = z_Peak_85 x n
abbrev z_Peak_101 (x : CZ2) : Prop := ∀ (n : Int), (ntOf (begD x.a).c.ns n).mi = z_Peak_88 x n /\ (ntOf (begD x.a).c.ns n).t.lo = z_Peak_90 x n /\ (ntOf (begD x.a).c.ns n).t.hi = z_Peak_91 x n /\ (ntOf (begD x.a).c.ns
 n).s.lo = z_Peak_93 x n /\ (ntOf (begD x.a).c.ns n).s.hi = z_Peak_94 x n
abbrev z_Peak_102 (a : IJ) : Prop := (0 : Int) <= (↑a.i : Int)
abbrev z_Peak_103 (x : CZ2) (a : IJ) : List Span := winL (z_Peak_63 x) (↑a.i : Int) (↑a.j : Int) (pkF x) (pkT x)
abbrev z_Peak_104 (x : CZ2) (a : IJ) : Nat := (z_Peak_103 x a).length
abbrev z_Peak_105 (x : CZ2) (a : IJ) (i : Nat) : Span := gD (z_Peak_103 x a) i
abbrev z_Peak_106 (x : CZ2) (a : IJ) : List Span := rng (z_Peak_104 x a) λ (i : Nat) => z_Peak_105 x a i
abbrev z_Peak_107 (x : CZ2) (a : IJ) : Nat := (z_Peak_106 x a).length
abbrev z_Peak_108 (x : CZ2) (a : IJ) (i : Nat) : Span := gD (z_Peak_106 x a) i
abbrev z_Peak_109 (a : IJ) : Int := IntKind.i64.wrap ((↑a.j : Int) + (1 : Int))
abbrev z_Peak_110 (a : IJ) (x : CZ2) : Prop := z_Peak_102 a /\ (↑a.i : Int) <= z_Peak_109 a /\ z_Peak_109 a <= (↑(stgL x.a.c).length : Int)
abbrev z_Peak_111 (a : IJ) : Nat := (z_Peak_109 a).toNat - a.i
abbrev z_Peak_112 (x : CZ2) (a : IJ) (i : Nat) : Span := gD (stgL x.a.c) (a.i + i)
abbrev z_Peak_113 (a : IJ) (x : CZ2) : List Span := rng (z_Peak_111 a) λ (i : Nat) => z_Peak_112 x a i
abbrev z_Peak_114 (a : IJ) (x : CZ2) : Nat := (z_Peak_113 a x).length
abbrev z_Peak_115 (a : IJ) (x : CZ2) : Prop := z_Peak_114 a x = z_Peak_111 a
abbrev z_Peak_116 (a : IJ) (x : CZ2) (i : Nat) : Span := gD (z_Peak_113 a x) i
abbrev z_Peak_117 (a : IJ) (x : CZ2) : Prop := ∀ (i : Nat), i < z_Peak_114 a x -> (z_Peak_116 a x i).lo = (z_Peak_112 x a i).lo /\ (z_Peak_116 a x i).hi = (z_Peak_112 x a i).hi
abbrev z_Peak_118 (a : IJ) (x : CZ2) : Prop := (0 : Nat) < z_Peak_114 a x /\ z_Peak_114 a x < (1073741824 : Nat)
abbrev z_Peak_119 (a : IJ) (x : CZ2) : Int := gLo (z_Peak_113 a x)
abbrev z_Peak_120 (a : IJ) (x : CZ2) : Int := gHi (z_Peak_113 a x)
abbrev z_Peak_121 (a : IJ) (a1 : IJ) : Prop := (↑a.i : Int) = (↑a1.i : Int)
abbrev z_Peak_122 (a : IJ) (a1 : IJ) : Prop := (↑a.j : Int) = z_Peak_109 a1
abbrev z_Peak_123 (x : CZ2) (a : IJ) : Span := (hadM (Hul.mk (z_Peak_49 x a) (z_Peak_52 x a)) (Span.mk (z_Peak_119 a x) (z_Peak_120 a x))).s
abbrev z_Peak_124 (x : CZ2) (a : IJ) : Nat := x.a.c.ms.length - a.j
abbrev z_Peak_125 (a : IJ) (x : CZ2) (a1 : Nat) (a2 : IJ) : Prop := z_Peak_62 a x a1 /\ z_Peak_124 x a < z_Peak_124 x a2
abbrev z_Peak_126 (x : CZ2) (a : Nat) : Prop := (pkO x a).s.lo = (pkO x a).s.lo
abbrev z_Peak_127 (x : CZ2) (a : Nat) : Prop := (pkO x a).s.hi = (pkO x a).s.hi
abbrev z_Peak_128 (x : CZ2) (a : Nat) : Prop := (pkO x a).m = (pkO x a).m
abbrev z_Peak_129 (x : CZ2) (a : Nat) : Span × Int := whoM (Hul.mk (pkO x a).s (pkO x a).m)
abbrev z_Peak_130 (x : CZ2) (a : Nat) : Span := (z_Peak_129 x a).fst
theorem vc_Peak (x : CZ2) : (V_Peak x) = ((x.a.c.p.lo = x.a.c.p.lo /\ x.a.c.p.hi = x.a.c.p.hi /\ x.a.c.base = x.a.c.base /\ x.a.c.scale = x.a.c.scale /\ x.a.c.off = x.a.c.off /\ z_Peak_1 x = x.a.c.ms.length /\ (∀ (i : Nat), i
 < z_Peak_1 x -> (z_Peak_2 x i).pl = (gD x.a.c.ms i).pl /\ (z_Peak_2 x i).ht = (gD x.a.c.ms i).ht) /\ z_Peak_4 x = x.a.c.ns.length /\ (∀ (i : Nat), i < z_Peak_4 x -> (z_Peak_5 x i).mi = (gD x.a.c.ns i).mi /\ (z_Peak_6 x i).lo =
 (gD x.a.c.ns i).t.lo /\ (z_Peak_6 x i).hi = (gD x.a.c.ns i).t.hi /\ (z_Peak_7 x i).lo = (gD x.a.c.ns i).s.lo /\ (z_Peak_7 x i).hi = (gD x.a.c.ns i).s.hi) /\ z_Peak_9 x = x.a.z.length /\ (∀ (i : Nat), i < z_Peak_9 x -> gD
 (z_Peak_8 x) i = gD x.a.z i) /\ (z_Peak_1 x < (4611686018427387904 : Nat) /\ z_Peak_4 x < (4611686018427387904 : Nat) /\ z_Peak_9 x < (4611686018427387904 : Nat)) /\ readE (z_Peak_11 x) = (0 : Int)) /\ bif decide (x.t < x.f)
 then (peakO x).fst.lo = (0 : Int) /\ (peakO x).fst.hi = (0 : Int) /\ (peakO x).snd = (4 : Int) else (∃ (a : Nat), (pkF x = maxI x.f (-100000001 : Int) /\ pkT x = minI x.t (100000001 : Int) /\ (tmL x.a).length = z_Peak_14 x /\
 (∀ (i : Nat), i < (tmL x.a).length -> (gD (tmL x.a) i).lo = (z_Peak_15 x i).lo /\ (gD (tmL x.a) i).hi = (z_Peak_15 x i).hi) /\ (stgL x.a.c).length = (z_Peak_16 x).length /\ (∀ (i : Nat), z_Peak_17 i x -> (gD (stgL x.a.c)
 i).lo = (z_Peak_18 x i).lo /\ (gD (stgL x.a.c) i).hi = (z_Peak_18 x i).hi) /\ (↑x.a.c.ms.length : Int) = (↑(z_Peak_14 x) : Int) /\ (↑a : Int) = (0 : Int) /\ z_Peak_19 /\ z_Peak_19 /\ (pkO x a).s.lo = (0 : Int) /\ (pkO x a).s.hi
 = (0 : Int) /\ (pkO x a).m = false /\ (begD x.a).c.p.lo = (z_Peak_21 x).lo /\ (begD x.a).c.p.hi = (z_Peak_21 x).hi /\ (begD x.a).c.base = (z_Peak_20 x).base /\ (begD x.a).c.scale = (z_Peak_20 x).scale /\ (begD x.a).c.off =
 (z_Peak_20 x).off /\ (begD x.a).c.ms.length = (z_Peak_22 x).length /\ (∀ (i : Nat), z_Peak_23 i x -> z_Peak_24 x i = (z_Peak_25 x i).pl /\ z_Peak_26 x i = (z_Peak_25 x i).ht) /\ (begD x.a).c.ns.length = (z_Peak_27 x).length /\
 (∀ (i : Nat), z_Peak_28 i x -> z_Peak_29 x i = (z_Peak_30 x i).mi /\ z_Peak_32 x i = (z_Peak_33 x i).lo /\ z_Peak_34 x i = (z_Peak_33 x i).hi /\ z_Peak_36 x i = (z_Peak_37 x i).lo /\ z_Peak_38 x i = (z_Peak_37 x i).hi) /\ (∀
 (i : Nat), i < (40 : Nat) -> (begD x.a).sp i = (z_Peak_12 x).sp i) /\ zNt = zNt /\ (∀ (n : Int), hasN (begD x.a).c.ns n = hasN (z_Peak_27 x) n) /\ (∀ (n : Int), (begD x.a).st n = (z_Peak_12 x).st n) /\ ∀ (n : Int), (ntOf
 (begD x.a).c.ns n).mi = (z_Peak_39 x n).mi /\ (ntOf (begD x.a).c.ns n).t.lo = (z_Peak_40 x n).lo /\ (ntOf (begD x.a).c.ns n).t.hi = (z_Peak_40 x n).hi /\ (ntOf (begD x.a).c.ns n).s.lo = (z_Peak_41 x n).lo /\ (ntOf (begD
 x.a).c.ns n).s.hi = (z_Peak_41 x n).hi) /\ a.le x.a.c.ms.length) /\ ∀ (a : Nat), a.le x.a.c.ms.length -> bif decide ((↑a : Int) < (↑x.a.c.ms.length : Int)) then (∃ (a_2 : IJ), (z_Peak_42 a_2 a /\ (↑a_2.j : Int) = (↑a : Int)
 /\ pkF x = pkF x /\ pkT x = pkT x /\ z_Peak_43 x /\ z_Peak_44 x /\ z_Peak_45 x /\ z_Peak_46 x /\ z_Peak_47 x /\ z_Peak_42 a_2 a /\ z_Peak_19 /\ z_Peak_19 /\ z_Peak_50 x a_2 = (pkO x a).s.lo /\ z_Peak_51 x a_2 = (pkO x a).s.hi /\
 z_Peak_52 x a_2 = (pkO x a).m /\ z_Peak_60 x) /\ z_Peak_62 a_2 x a) /\ ∀ (a_2 : IJ), z_Peak_62 a_2 x a -> bif bif decide ((↑a_2.j : Int) < (↑(tmL x.a).length : Int)) then decide (pkT x >= pkF x) else false then (z_Peak_64 x =
 (tmL x.a).length /\ (∀ (i : Nat), i < z_Peak_64 x -> (z_Peak_65 x i).lo = (gD (tmL x.a) i).lo /\ (z_Peak_65 x i).hi = (gD (tmL x.a) i).hi) /\ (↑a_2.i : Int) = (↑a_2.i : Int) /\ (↑a_2.j : Int) = (↑a_2.j : Int) /\ pkF x = pkF x
 /\ pkT x = pkT x /\ z_Peak_53 x /\ z_Peak_54 x /\ z_Peak_55 x /\ z_Peak_56 x /\ z_Peak_57 x /\ z_Peak_68 x /\ z_Peak_72 x /\ z_Peak_75 x /\ z_Peak_84 x /\ z_Peak_58 x /\ zNt = zNt /\ z_Peak_86 x /\ z_Peak_59 x /\ z_Peak_95 x /\
 z_Peak_53 x /\ z_Peak_54 x /\ z_Peak_55 x /\ z_Peak_56 x /\ z_Peak_57 x /\ z_Peak_96 x /\ z_Peak_97 x /\ z_Peak_98 x /\ z_Peak_99 x /\ z_Peak_58 x /\ zNt = zNt /\ z_Peak_100 x /\ z_Peak_59 x /\ z_Peak_101 x /\ (((1 : Nat) <= z_Peak_64
 x /\ z_Peak_64 x <= (40 : Nat)) /\ (z_Peak_102 a_2 /\ (↑a_2.i : Int) < (↑(z_Peak_64 x) : Int)) /\ (0 : Int) <= (↑a_2.j : Int) /\ (↑a_2.j : Int) < (↑(z_Peak_64 x) : Int)) /\ z_Peak_107 x a_2 = z_Peak_104 x a_2 /\ (∀ (i : Nat), i <
 z_Peak_107 x a_2 -> (z_Peak_108 x a_2 i).lo = (z_Peak_105 x a_2 i).lo /\ (z_Peak_108 x a_2 i).hi = (z_Peak_105 x a_2 i).hi) /\ z_Peak_53 x /\ z_Peak_54 x /\ z_Peak_55 x /\ z_Peak_56 x /\ z_Peak_57 x /\ z_Peak_68 x /\ z_Peak_72 x
 /\ z_Peak_75 x /\ z_Peak_84 x /\ z_Peak_58 x /\ zNt = zNt /\ z_Peak_86 x /\ z_Peak_59 x /\ z_Peak_95 x /\ z_Peak_53 x /\ z_Peak_54 x /\ z_Peak_55 x /\ z_Peak_56 x /\ z_Peak_57 x /\ z_Peak_96 x /\ z_Peak_97 x /\ z_Peak_98 x /\ z_Peak_99
 x /\ z_Peak_58 x /\ zNt = zNt /\ z_Peak_100 x /\ z_Peak_59 x /\ z_Peak_101 x /\ z_Peak_107 x a_2 = z_Peak_67 x /\ (1 : Nat) <= z_Peak_67 x /\ z_Peak_67 x <= (40 : Nat)) /\ bif (narL (Dk.mk (Cht.mk (begD x.a).c.p (begD x.a).c.base
 (begD x.a).c.scale (begD x.a).c.off (z_Peak_66 x) (z_Peak_73 x)) (begD x.a).st (begD x.a).sp) (z_Peak_106 x a_2)).all leM then (z_Peak_110 a_2 x /\ z_Peak_115 a_2 x /\ z_Peak_117 a_2 x /\ z_Peak_118 a_2 x /\ z_Peak_110 a_2 x
 /\ z_Peak_115 a_2 x /\ z_Peak_117 a_2 x /\ z_Peak_118 a_2 x /\ z_Peak_119 a_2 x = z_Peak_119 a_2 x /\ z_Peak_120 a_2 x = z_Peak_120 a_2 x /\ z_Peak_50 x a_2 = z_Peak_50 x a_2 /\ z_Peak_51 x a_2 = z_Peak_51 x a_2 /\ z_Peak_52 x
 a_2 = z_Peak_52 x a_2) /\ ∃ (a_4 : IJ), (z_Peak_121 a_4 a_2 /\ z_Peak_122 a_4 a_2 /\ pkF x = pkF x /\ pkT x = pkT x /\ z_Peak_43 x /\ z_Peak_44 x /\ z_Peak_45 x /\ z_Peak_46 x /\ z_Peak_47 x /\ z_Peak_121 a_4 a_2 /\ z_Peak_19 /\
 z_Peak_19 /\ z_Peak_50 x a_4 = (z_Peak_123 x a_2).lo /\ z_Peak_51 x a_4 = (z_Peak_123 x a_2).hi /\ z_Peak_52 x a_4 = true /\ z_Peak_60 x) /\ z_Peak_125 a_4 x a a_2 else ∃ (a_4 : IJ), (z_Peak_121 a_4 a_2 /\ z_Peak_122 a_4 a_2 /\
 pkF x = pkF x /\ pkT x = pkT x /\ z_Peak_43 x /\ z_Peak_44 x /\ z_Peak_45 x /\ z_Peak_46 x /\ z_Peak_47 x /\ z_Peak_121 a_4 a_2 /\ z_Peak_19 /\ z_Peak_19 /\ z_Peak_50 x a_4 = z_Peak_50 x a_2 /\ z_Peak_51 x a_4 = z_Peak_51 x a_2 /\
 z_Peak_52 x a_4 = z_Peak_52 x a_2 /\ z_Peak_60 x) /\ z_Peak_125 a_4 x a a_2 else ∃ (a_4 : Nat), (pkF x = pkF x /\ pkT x = pkT x /\ z_Peak_43 x /\ z_Peak_44 x /\ z_Peak_45 x /\ z_Peak_46 x /\ z_Peak_47 x /\ (↑a_4 : Int) =
 IntKind.i64.wrap ((↑a_2.i : Int) + (1 : Int)) /\ z_Peak_19 /\ z_Peak_19 /\ (pkO x a_4).s.lo = z_Peak_50 x a_2 /\ (pkO x a_4).s.hi = z_Peak_51 x a_2 /\ (pkO x a_4).m = z_Peak_52 x a_2 /\ z_Peak_60 x) /\ a_4.le x.a.c.ms.length /\
 z_Peak_61 x a_4 < z_Peak_61 x a else (z_Peak_126 x a /\ z_Peak_127 x a /\ z_Peak_128 x a /\ z_Peak_126 x a /\ z_Peak_127 x a /\ z_Peak_128 x a) /\ (peakO x).fst.lo = (z_Peak_130 x a).lo /\ (peakO x).fst.hi = (z_Peak_130 x a).hi
 /\ (peakO x).snd = (z_Peak_129 x a).snd) := by kernel_rfl
def V_PeakX (x : CZ2) : Prop := fnVC Try.prog A_PeakX F_Peak (bodyOf F_Peak) (xCZ2 x) (heapOf []) (.tup [.d (eSpan zSp), .int (readE x.a)]) [] [] []
theorem vc_PeakX (x : CZ2) : (V_PeakX x) = ((x.a.c.p.lo = x.a.c.p.lo /\ x.a.c.p.hi = x.a.c.p.hi /\ x.a.c.base = x.a.c.base /\ x.a.c.scale = x.a.c.scale /\ x.a.c.off = x.a.c.off /\ (rng x.a.c.ms.length λ (i : Nat) => gD
 x.a.c.ms i).length = x.a.c.ms.length /\ (∀ (i : Nat), i < (rng x.a.c.ms.length λ (i : Nat) => gD x.a.c.ms i).length -> (gD (rng x.a.c.ms.length λ (i : Nat) => gD x.a.c.ms i) i).pl = (gD x.a.c.ms i).pl /\ (gD (rng
 x.a.c.ms.length λ (i : Nat) => gD x.a.c.ms i) i).ht = (gD x.a.c.ms i).ht) /\ (rng x.a.c.ns.length λ (i : Nat) => gD x.a.c.ns i).length = x.a.c.ns.length /\ (∀ (i : Nat), i < (rng x.a.c.ns.length λ (i : Nat) => gD
 x.a.c.ns i).length -> (gD (rng x.a.c.ns.length λ (i : Nat) => gD x.a.c.ns i) i).mi = (gD x.a.c.ns i).mi /\ (gD (rng x.a.c.ns.length λ (i : Nat) => gD x.a.c.ns i) i).t.lo = (gD x.a.c.ns i).t.lo /\ (gD (rng
 x.a.c.ns.length λ (i : Nat) => gD x.a.c.ns i) i).t.hi = (gD x.a.c.ns i).t.hi /\ (gD (rng x.a.c.ns.length λ (i : Nat) => gD x.a.c.ns i) i).s.lo = (gD x.a.c.ns i).s.lo /\ (gD (rng x.a.c.ns.length λ (i : Nat) => gD
 x.a.c.ns i) i).s.hi = (gD x.a.c.ns i).s.hi) /\ (rng x.a.z.length λ (i : Nat) => gD x.a.z i).length = x.a.z.length /\ (∀ (i : Nat), i < (rng x.a.z.length λ (i : Nat) => gD x.a.z i).length -> gD (rng x.a.z.length λ (i :
 Nat) => gD x.a.z i) i = gD x.a.z i) /\ ((rng x.a.c.ms.length λ (i : Nat) => gD x.a.c.ms i).length < (4611686018427387904 : Nat) /\ (rng x.a.c.ns.length λ (i : Nat) => gD x.a.c.ns i).length < (4611686018427387904 : Nat)
 /\ (rng x.a.z.length λ (i : Nat) => gD x.a.z i).length < (4611686018427387904 : Nat)) /\ readE (CZ.mk (Cht.mk x.a.c.p x.a.c.base x.a.c.scale x.a.c.off (rng x.a.c.ms.length λ (i : Nat) => gD x.a.c.ms i) (rng
 x.a.c.ns.length λ (i : Nat) => gD x.a.c.ns i)) (rng x.a.z.length λ (i : Nat) => gD x.a.z i)) ≠ (0 : Int)) /\ bif readE (CZ.mk (Cht.mk x.a.c.p x.a.c.base x.a.c.scale x.a.c.off (rng x.a.c.ms.length λ (i : Nat) => gD
 x.a.c.ms i) (rng x.a.c.ns.length λ (i : Nat) => gD x.a.c.ns i)) (rng x.a.z.length λ (i : Nat) => gD x.a.z i)) != (0 : Int) then Int.ofNat (0 : Nat) = Int.ofNat (0 : Nat) /\ Int.ofNat (0 : Nat) = Int.ofNat (0 : Nat) /\
 readE x.a = readE (CZ.mk (Cht.mk x.a.c.p x.a.c.base x.a.c.scale x.a.c.off (rng x.a.c.ms.length λ (i : Nat) => gD x.a.c.ms i) (rng x.a.c.ns.length λ (i : Nat) => gD x.a.c.ns i)) (rng x.a.z.length λ (i : Nat) => gD
 x.a.z i)) else bif decide (x.t < x.f) then Int.ofNat (0 : Nat) = Int.ofNat (0 : Nat) /\ Int.ofNat (0 : Nat) = Int.ofNat (0 : Nat) /\ readE x.a = (4 : Int) else False) := by kernel_rfl
theorem winL_len (l : List Span) (a b x y : Int) : (winL l a b x y).length = l.length := by unfold winL; rw [parL_len, parL_len]
theorem pk1 (x : CZ2) {i j : Nat} (h : Hul) (hij : i <= j) (hw : winOk x i j = true) : pkI x i h (j + 1 - i) = hadM (pkI x i h (j - i)) ⟨gLo (sliS x i j), gHi (sliS x i j)⟩ := by
 rw [show j + 1 - i = (j - i) + 1 by omega]
 show (bif winOk x i (i + (j - i)) then _ else _) = _
 rw [show i + (j - i) = j by omega, hw]; rfl
theorem pk0 (x : CZ2) {i j : Nat} (h : Hul) (hij : i <= j) (hw : winOk x i j = false) : pkI x i h (j + 1 - i) = pkI x i h (j - i) := by
 rw [show j + 1 - i = (j - i) + 1 by omega]
 show (bif winOk x i (i + (j - i)) then _ else _) = _
 rw [show i + (j - i) = j by omega, hw]; rfl
theorem p_Peak (x : CZ2) (h1 : x.a.c.ms.length < 4611686018427387904 /\ x.a.c.ns.length < 4611686018427387904 /\ x.a.z.length < 4611686018427387904) (c0 : readE x.a = 0) : V_Peak x := by
 have tl := tmL_len c0
 have sl := stgL_len x.a.c
 obtain ⟨_, ⟨n1, n2⟩, _⟩ := headC_len (readE_0 c0).1
 have wo : ∀ a b : Nat, (narL (begD x.a) (winL (tmL x.a) (a : Int) (b : Int) (pkF x) (pkT x))).all leM = winOk x a b := λ _ _ => rfl
 have pf : maxI x.f (-100000001) = pkF x := rfl
 have pt : minI x.t 100000001 = pkT x := rfl
 have so : ∀ a b : Nat, (rng (b + 1 - a) λ i => gD (stgL x.a.c) (a + i)) = sliS x a b := λ _ _ => rfl
 rw [vc_Peak]; delta z_Peak_0 z_Peak_1 z_Peak_2 z_Peak_3 z_Peak_4 z_Peak_5 z_Peak_6 z_Peak_7 z_Peak_8 z_Peak_9 z_Peak_10 z_Peak_11 z_Peak_12 z_Peak_13 z_Peak_14 z_Peak_15 z_Peak_16 z_Peak_17 z_Peak_18 z_Peak_19 z_Peak_20 z_Peak_21 z_Peak_22 z_Peak_23 z_Peak_24 z_Peak_25 z_Peak_26 z_Peak_27 z_Peak_28 z_Peak_29 z_Peak_30 z_Peak_31 z_Peak_32 z_Peak_33 z_Peak_34 z_Peak_35 z_Peak_36 z_Peak_37 z_Peak_38 z_Peak_39 z_Peak_40 z_Peak_41 z_Peak_42 z_Peak_43 z_Peak_44 z_Peak_45 z_Peak_46 z_Peak_47 z_Peak_48 z_Peak_49 z_Peak_50 z_Peak_51 z_Peak_52 z_Peak_53 z_Peak_54 z_Peak_55 z_Peak_56 z_Peak_57 z_Peak_58 z_Peak_59 z_Peak_60 z_Peak_61 z_Peak_62 z_Peak_63 z_Peak_64 z_Peak_65 z_Peak_66 z_Peak_67 z_Peak_68 z_Peak_69 z_Peak_70 z_Peak_71 z_Peak_72 z_Peak_73 z_Peak_74 z_Peak_75 z_Peak_76 z_Peak_77 z_Peak_78 z_Peak_79 z_Peak_80 z_Peak_81 z_Peak_82 z_Peak_83 z_Peak_84 z_Peak_85 z_Peak_86 z_Peak_87 z_Peak_88 z_Peak_89 z_Peak_90 z_Peak_91 z_Peak_92 z_Peak_93 z_Peak_94 z_Peak_95 z_Peak_96 z_Peak_97 z_Peak_98 z_Peak_99 z_Peak_100 z_Peak_101 z_Peak_102 z_Peak_103 z_Peak_104 z_Peak_105 z_Peak_106 z_Peak_107 z_Peak_108 z_Peak_109 z_Peak_110 z_Peak_111 z_Peak_112 z_Peak_113 z_Peak_114 z_Peak_115 z_Peak_116 z_Peak_117 z_Peak_118 z_Peak_119 z_Peak_120 z_Peak_121 z_Peak_122 z_Peak_123 z_Peak_124 z_Peak_125 z_Peak_126 z_Peak_127 z_Peak_128 z_Peak_129 z_Peak_130; simp only [condP, eq_self, implies_true, and_self, true_and, and_true, true_implies, forall_const, decide_eq_true_eq, decide_eq_false_iff_not, Int.toNat_natCast, dSpan_eSpan, dInt_eInt, dMk_e, dNt_e, dPr_e, Nat.zero_add, Int.zero_sub, Nat.le_eq, Nat.succ_eq_add_one, Nat.add_one_le_iff, Bool.not_eq_true', Bool.not_eq_false', rng_length, dSpan_mk, rng_getD, cht_eta, dk_eta, begD_c, cz_eta, begD_eta, hul_eta, tmL_d]; simp only [tl, sl, wo, winL_len, pf, pt]
 refine ⟨⟨h1, c0⟩, λ h4 => ?_, λ h4 => ⟨⟨0, ?_, Nat.zero_le _⟩, λ a ha => ⟨λ hlt => ⟨⟨⟨a, a⟩, ?_, by show a < _; omega, rfl, Nat.le_refl _, by show a <= _; omega, λ h => absurd h (Nat.lt_irrefl _)⟩, λ s ⟨s1, s2, s3, s4, s5⟩ => ⟨λ hc => ?_, λ hc => ?_⟩⟩, λ hge => ?_⟩⟩⟩
 ·unfold peakO; rw [decide_eq_true h4]; exact ⟨rfl, rfl, rfl⟩
 ·simp; exact ⟨rfl, rfl, rfl⟩
 ·simp [pkI]
 ·have hj : s.j < x.a.c.ms.length := by
   cases hd : decide ((s.j : Int) < x.a.c.ms.length) with
   | false => rw [hd] at hc; cases hc
   | true => have := of_decide_eq_true hd; omega
  have hft : pkT x >= pkF x := by
   rw [decide_eq_true (show (s.j : Int) < x.a.c.ms.length by omega)] at hc
   exact of_decide_eq_true hc
  have ew : IntKind.i64.wrap ((s.j : Int) + 1) = ((s.j + 1 : Nat) : Int) := wsucc (by omega)
  simp only [ew, Int.toNat_natCast, so]
  have bound : ∀ i, i < s.j + 1 - s.i -> (gD (sliS x s.i s.j) i).lo = (gD (stgL x.a.c) (s.i + i)).lo /\ (gD (sliS x s.i s.j) i).hi = (gD (stgL x.a.c) (s.i + i)).hi := λ i hi => by
   unfold sliS; rw [rng_get _ _ _ hi]; exact ⟨rfl, rfl⟩
  refine ⟨?_, λ hw => ⟨?_, ⟨s.i, s.j + 1⟩, ?_, ⟨s1, s2, by show s.i <= s.j + 1; omega, by show s.j + 1 <= _; omega, λ _ => hft⟩, by show x.a.c.ms.length - (s.j + 1) < _; omega⟩, λ hw => ⟨⟨s.i, s.j + 1⟩, ?_, ⟨s1, s2, by show s.i <= s.j + 1; omega, by show s.j + 1 <= _; omega, λ _ => hft⟩, by show x.a.c.ms.length - (s.j + 1) < _; omega⟩⟩
  ·simp; omega
  ·refine ⟨⟨by omega, by omega, by omega⟩, bound, ⟨by omega, by omega⟩, ⟨by omega, by omega, by omega⟩, bound, by omega, by omega⟩
  ·have e := pk1 x (pkO x s.i) s3 hw
   simp only [e]; simp; rfl
  ·have e := pk0 x (pkO x s.i) s3 hw
   simp only [e]; simp
 ·have e : pkO x (s.i + 1) = pkI x s.i (pkO x s.i) (s.j - s.i) := by
   show (bif decide (pkT x >= pkF x) then _ else _) = _
   by_cases hft : pkT x >= pkF x
   ·rw [decide_eq_true hft] at hc ⊢
    have hj : s.j = x.a.c.ms.length := by
     cases hd : decide ((s.j : Int) < x.a.c.ms.length) with
     | true => rw [hd] at hc; cases hc
     | false => have := of_decide_eq_false hd; omega
    rw [hj]; rfl
   ·rw [decide_eq_false hft]
    have : s.j = s.i := by
     rcases Nat.lt_or_ge s.i s.j with h | h
     ·exact absurd (s5 h) hft
     ·omega
    rw [this, Nat.sub_self]; rfl
  refine ⟨s.i + 1, ⟨(wsucc (by omega)).symm, ?_, ?_, ?_⟩, by omega, by omega⟩ <;> rw [e]
 ·obtain rfl : a = x.a.c.ms.length := by omega
  unfold peakO; rw [decide_eq_false h4]; exact ⟨rfl, rfl, rfl⟩
theorem ok_Peak : SpecOk Try.prog n_Peak (C_Peak.spec dCZ2) := okT C_Peak (λ (x : CZ2) h => by
 have h1 : x.a.c.ms.length < 4611686018427387904 /\ x.a.c.ns.length < 4611686018427387904 /\ x.a.z.length < 4611686018427387904 := h
 by_cases c0 : readE x.a = 0
 ·have e : C_Peak.val x = .tup [.d (eSpan (peakO x).1), .int (peakO x).2] := by
   show AVal.tup [.d (eSpan (peakV x).1), .int (peakV x).2] = _
   unfold peakV; rw [c0]; rfl
  rw [e]
  exact fnt (A := A_Peak x) (L := []) (keep := []) (ren := []) (fz := []) fn_Peak (by kernel_rfl) (gok_cons ok_rdO (gok_cons ok_win (gok_cons ok_nar (gok_cons ok_least (gok_cons ok_most (gok_cons (orS_ok ok_grL ok_grH) (gok_cons ok_hadd (gok_cons ok_who gok_nil)))))))) (p_Peak x h1 c0)
 ·have c0' : (readE x.a == 0) = false := by simpa using c0
  have e : C_Peak.val x = .tup [.d (eSpan zSp), .int (readE x.a)] := by
   show AVal.tup [.d (eSpan (peakV x).1), .int (peakV x).2] = _
   unfold peakV; rw [c0']; rfl
  rw [e]
  refine fnt (A := A_PeakX) (L := []) (keep := []) (ren := []) (fz := []) fn_Peak (by kernel_rfl) (gok_cons ok_rdX gok_nil) ?_
  show V_PeakX x; rw [vc_PeakX]; simp only [condP, eq_self, implies_true, and_self, true_and, and_true, true_implies, forall_const, decide_eq_true_eq, decide_eq_false_iff_not, Int.toNat_natCast, dSpan_eSpan, dInt_eInt, dMk_e, dNt_e, dPr_e, Nat.zero_add, Int.zero_sub, Nat.le_eq, Nat.succ_eq_add_one, Nat.add_one_le_iff, Bool.not_eq_true', Bool.not_eq_false', rng_length, dSpan_mk, rng_getD, cht_eta, cz_eta]
  exact ⟨⟨h1, c0⟩, λ h => by simp [c0] at h⟩) _
end Go.Bal
