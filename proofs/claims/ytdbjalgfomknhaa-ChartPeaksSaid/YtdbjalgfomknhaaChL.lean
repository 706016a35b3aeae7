/- Package chart: Late, Proves. -/
import Derived.Test.YtdbjalgfomknhaaChK
set_option linter.unusedVariables false
set_option linter.unusedSimpArgs false
namespace Go.Bal
open Go Go.Sym Go.Proofs
structure Prv where
 c : Cht
 m : Int
 l : List Pr
def dPrv : List AVal -> Heap -> Option (Prv × List (Nat × Nat) × List Nat)
 | [x, .d m, y], H => match dChtA x H, dRow y H with
  | some (c, f), some (n, g, e) => some (⟨c, dInt m, rng n λ i => dPr (g i)⟩, [], f ++ e)
  | _, _ => none
 | _, _ => none
def xPrv (x : Prv) : List AVal := [.d (eCht x.c), .int x.m, .d (ePrs x.l)]
def pvA (x : Prv) (k : Nat) : Int := (nA x.c (gD x.l k)).mi
def pvB (x : Prv) (k : Nat) : Int := (nB x.c (gD x.l k)).mi
def mtF (x : Prv) : Nat -> Nat -> Bool
 | 0, _ => false
 | k + 1, i => mtF x k i || (decide (pvA x k <= i) && decide ((i : Int) < pvB x k))
def hitJ (f : Nat -> Bool) (a : Nat) : Nat -> Bool
 | 0 => false
 | j + 1 => hitJ f a j || f (a + j)
def pvK (x : Prv) : Nat -> Bool
 | 0 => true
 | k + 1 => pvK x k && lateM x.c (gD x.l k) && !hitJ (mtF x k) (pvA x k).toNat (pvB x k - pvA x k).toNat
def provO (x : Prv) : Bool × Int := bif decide ((x.l.length : Int) > 40) then (false, 3) else bif !(x.l.all λ p => pairM x.c p) then (false, 2) else (pvK x x.l.length && decide ((x.l.length : Int) >= x.m), 0)
def provV (x : Prv) : Bool × Int := bif checkC x.c == 0 then provO x else (false, checkC x.c)
def C_prov : Ctr := { α := Prv, xs := xPrv, val := λ x => .tup [.bool (provV x).1, .int (provV x).2], keep := λ _ => [], pre := λ x => [x.c.ms.length < 4611686018427387904 /\ x.c.ns.length < 4611686018427387904 /\ x.l.length < 4611686018427387904] }
def pvS (x : Prv) (k : Nat) : List (Nat × AVal) := [(1, .int x.m), (2, .d (ePrs x.l)), (3, .bptr 201 0), (8, .bptr 203 0), (10, .rptr 205 1 0 0), (33, .d (ePrs x.l)), (34, .int x.l.length), (35, .int k)]
def pvH (x : Prv) (f : Nat -> Bool) : List (Nat × HCell) := [(201, .live (chB x.c)), (203, .live (dkB (newD x.c) 204)), (204, .live (dkM (newD x.c))), (205, .live (.row 1 40 λ i => .v (.bool (f i))))]
def pv10 (x : Prv) : Shape := { α := Nat, dflt := 0, T := λ k => ⟨pvS x k, pvH x (mtF x k)⟩, inv := λ k => k <= x.l.length /\ pvK x k = true, meas := λ k => x.l.length - k, first := [(201, 1000), (203, 2016), (204, 2017), (205, 9000)] }
def mtG (x : Prv) (k j : Nat) : Nat -> Bool := λ i => mtF x k i || (decide (pvA x k <= i) && decide ((i : Int) < pvA x k + j))
def pv15 (x : Prv) (m : Nat) : Shape := { α := IJ, dflt := default, T := λ s => ⟨[(12, .bptr 206 0), (13, .int (pvA x s.i + s.j))] ++ pvS x s.i, pvH x (mtG x s.i s.j) ++ [(206, .live (.box [.int (gD x.l s.i).a, .int (gD x.l s.i).b]))]⟩, inv := λ s => (s.i < x.l.length /\ x.l.length - s.i = m) /\ (pvK x s.i = true /\ lateM x.c (gD x.l s.i) = true) /\ (pvA x s.i + s.j <= pvB x s.i /\ hitJ (mtF x s.i) (pvA x s.i).toNat s.j = false), meas := λ s => 50 - s.j, first := [(206, 12032)] }
def A_prov (x : Prv) : Ann := { ann 71 [(n_opened, C_open.spec dC1), (n_eP, C4Pp.spec d4Pp), (n_late, C_late.spec dDkP)] with loops := λ id => if id = 10 then some [pv10 x] else none, inner := λ gs id => if id = 15 then some [pv15 x (gs.getD 0 0)] else none }
def V_prov (x : Prv) : Prop := fnVC Try.prog (A_prov x) F_Proves (bodyOf F_Proves) (xPrv x) (heapOf []) (.tup [.bool (provO x).1, .int (provO x).2]) [] [] []
abbrev z_prov_0 (x : Prv) : Prop := x.c.p.lo = x.c.p.lo
abbrev z_prov_1 (x : Prv) : Prop := x.c.p.hi = x.c.p.hi
abbrev z_prov_2 (x : Prv) : List Mk := rng x.c.ms.length λ (i : Nat) => gD x.c.ms i
abbrev z_prov_3 (x : Prv) : Nat := (z_prov_2 x).length
abbrev z_prov_4 (x : Prv) (i : Nat) : Mk := gD (z_prov_2 x) i
abbrev z_prov_5 (x : Prv) : List Nt := rng x.c.ns.length λ (i : Nat) => gD x.c.ns i
abbrev z_prov_6 (x : Prv) : Nat := (z_prov_5 x).length
abbrev z_prov_7 (x : Prv) (i : Nat) : Nt := gD (z_prov_5 x) i
abbrev z_prov_8 (x : Prv) (i : Nat) : Span := (z_prov_7 x i).t
abbrev z_prov_9 (x : Prv) (i : Nat) : Span := (z_prov_7 x i).s
abbrev z_prov_10 (x : Prv) : Cht := Cht.mk x.c.p x.c.base x.c.scale x.c.off (z_prov_2 x) (z_prov_5 x)
abbrev z_prov_11 (x : Prv) : List Pr := rng x.l.length λ (i : Nat) => gD x.l i
abbrev z_prov_12 (x : Prv) : Nat := (z_prov_11 x).length
abbrev z_prov_13 (x : Prv) (i : Nat) : Pr := gD (z_prov_11 x) i
abbrev z_prov_14 (x : Prv) : Dk := newD (z_prov_10 x)
abbrev z_prov_15 (x : Prv) : Cht := (z_prov_14 x).c
abbrev z_prov_16 (x : Prv) : Span := (z_prov_15 x).p
abbrev z_prov_17 (x : Prv) : Int := (z_prov_16 x).lo
abbrev z_prov_18 (x : Prv) : Prop := z_prov_17 x = z_prov_17 x
abbrev z_prov_19 (x : Prv) : Int := (z_prov_16 x).hi
abbrev z_prov_20 (x : Prv) : Prop := z_prov_19 x = z_prov_19 x
abbrev z_prov_21 (x : Prv) : Int := (z_prov_15 x).base
abbrev z_prov_22 (x : Prv) : Prop := z_prov_21 x = z_prov_21 x
abbrev z_prov_23 (x : Prv) : Int := (z_prov_15 x).scale
abbrev z_prov_24 (x : Prv) : Prop := z_prov_23 x = z_prov_23 x
abbrev z_prov_25 (x : Prv) : Int := (z_prov_15 x).off
abbrev z_prov_26 (x : Prv) : Prop := z_prov_25 x = z_prov_25 x
abbrev z_prov_27 (x : Prv) : List Mk := (z_prov_15 x).ms
abbrev z_prov_28 (x : Prv) : Nat := (z_prov_27 x).length
abbrev z_prov_29 (x : Prv) (i : Nat) : Mk := gD (z_prov_27 x) i
abbrev z_prov_30 (x : Prv) : List Mk := rng (z_prov_28 x) λ (i : Nat) => z_prov_29 x i
abbrev z_prov_31 (x : Prv) : Nat := (z_prov_30 x).length
abbrev z_prov_32 (x : Prv) (i : Nat) : Mk := gD (z_prov_30 x) i
abbrev z_prov_33 (x : Prv) (i : Nat) : Int := (z_prov_32 x i).pl
abbrev z_prov_34 (x : Prv) (i : Nat) : Int := (z_prov_29 x i).pl
abbrev z_prov_35 (x : Prv) (i : Nat) : Int := (z_prov_32 x i).ht
abbrev z_prov_36 (x : Prv) (i : Nat) : Int := (z_prov_29 x i).ht
abbrev z_prov_37 (x : Prv) : List Nt := (z_prov_15 x).ns
abbrev z_prov_38 (x : Prv) : Nat := (z_prov_37 x).length
abbrev z_prov_39 (x : Prv) (i : Nat) : Nt := gD (z_prov_37 x) i
abbrev z_prov_40 (x : Prv) : List Nt := rng (z_prov_38 x) λ (i : Nat) => z_prov_39 x i
abbrev z_prov_41 (x : Prv) : Nat := (z_prov_40 x).length
abbrev z_prov_42 (x : Prv) (i : Nat) : Nt := gD (z_prov_40 x) i
abbrev z_prov_43 (x : Prv) (i : Nat) : Int := (z_prov_42 x i).mi
abbrev z_prov_44 (x : Prv) (i : Nat) : Int := (z_prov_39 x i).mi
abbrev z_prov_45 (x : Prv) (i : Nat) : Span := (z_prov_42 x i).t
abbrev z_prov_46 (x : Prv) (i : Nat) : Int := (z_prov_45 x i).lo
abbrev z_prov_47 (x : Prv) (i : Nat) : Span := (z_prov_39 x i).t
abbrev z_prov_48 (x : Prv) (i : Nat) : Int := (z_prov_47 x i).lo
abbrev z_prov_49 (x : Prv) (i : Nat) : Int := (z_prov_45 x i).hi
abbrev z_prov_50 (x : Prv) (i : Nat) : Int := (z_prov_47 x i).hi
abbrev z_prov_51 (x : Prv) (i : Nat) : Span := (z_prov_42 x i).s
abbrev z_prov_52 (x : Prv) (i : Nat) : Int := (z_prov_51 x i).lo
abbrev z_prov_53 (x : Prv) (i : Nat) : Span := (z_prov_39 x i).s
abbrev z_prov_54 (x : Prv) (i : Nat) : Int := (z_prov_53 x i).lo
abbrev z_prov_55 (x : Prv) (i : Nat) : Int := (z_prov_51 x i).hi
abbrev z_prov_56 (x : Prv) (i : Nat) : Int := (z_prov_53 x i).hi
abbrev z_prov_57 : Prop := ∀ (i : Nat), i < 40 -> false = false
abbrev z_prov_58 (x : Prv) (n : Int) : Bool := hasN (z_prov_40 x) n
abbrev z_prov_59 (x : Prv) (n : Int) : Bool := hasN (z_prov_37 x) n
abbrev z_prov_60 (x : Prv) (n : Int) : Int := (z_prov_14 x).st n
abbrev z_prov_61 (x : Prv) : Prop := ∀ (n : Int), z_prov_60 x n = z_prov_60 x n
abbrev z_prov_62 (x : Prv) (n : Int) : Nt := ntOf (z_prov_40 x) n
abbrev z_prov_63 (x : Prv) (n : Int) : Int := (z_prov_62 x n).mi
abbrev z_prov_64 (x : Prv) (n : Int) : Nt := ntOf (z_prov_37 x) n
abbrev z_prov_65 (x : Prv) (n : Int) : Int := (z_prov_64 x n).mi
abbrev z_prov_66 (x : Prv) (n : Int) : Span := (z_prov_62 x n).t
abbrev z_prov_67 (x : Prv) (n : Int) : Int := (z_prov_66 x n).lo
abbrev z_prov_68 (x : Prv) (n : Int) : Span := (z_prov_64 x n).t
abbrev z_prov_69 (x : Prv) (n : Int) : Int := (z_prov_68 x n).lo
abbrev z_prov_70 (x : Prv) (n : Int) : Int := (z_prov_66 x n).hi
abbrev z_prov_71 (x : Prv) (n : Int) : Int := (z_prov_68 x n).hi
abbrev z_prov_72 (x : Prv) (n : Int) : Span := (z_prov_62 x n).s
abbrev z_prov_73 (x : Prv) (n : Int) : Int := (z_prov_72 x n).lo
abbrev z_prov_74 (x : Prv) (n : Int) : Span := (z_prov_64 x n).s
abbrev z_prov_75 (x : Prv) (n : Int) : Int := (z_prov_74 x n).lo
abbrev z_prov_76 (x : Prv) (n : Int) : Int := (z_prov_72 x n).hi
abbrev z_prov_77 (x : Prv) (n : Int) : Int := (z_prov_74 x n).hi
abbrev z_prov_78 (x : Prv) : Prop := x.l.length = x.l.length
abbrev z_prov_79 (x : Prv) (i : Nat) : Prop := (gD x.l i).a = (gD x.l i).a
abbrev z_prov_80 (x : Prv) (i : Nat) : Prop := (gD x.l i).b = (gD x.l i).b
abbrev z_prov_81 (x : Prv) : Prop := ∀ (i : Nat), i < x.l.length -> z_prov_79 x i /\ z_prov_80 x i
abbrev z_prov_82 : Prop := 0 = 0
abbrev z_prov_83 (x : Prv) : Prop := (↑x.l.length : Int) = (↑x.l.length : Int)
abbrev z_prov_84 (x : Prv) : Prop := x.c.ms.length = x.c.ms.length
abbrev z_prov_85 (x : Prv) : Prop := ∀ (i : Nat), i < x.c.ms.length -> (gD x.c.ms i).pl = (gD x.c.ms i).pl /\ (gD x.c.ms i).ht = (gD x.c.ms i).ht
abbrev z_prov_86 (x : Prv) : Prop := x.c.ns.length = x.c.ns.length
abbrev z_prov_87 (x : Prv) : Prop := ∀ (i : Nat), i < x.c.ns.length -> (gD x.c.ns i).mi = (gD x.c.ns i).mi /\ (gD x.c.ns i).t.lo = (gD x.c.ns i).t.lo /\ (gD x.c.ns i).t.hi = (gD x.c.ns i).t.hi /\ (gD x.c.ns i).s.lo = (gD
 x.c.ns i).s.lo /\ (gD x.c.ns i).s.hi = (gD x.c.ns i).s.hi
abbrev z_prov_88 (i : Nat) (x : Prv) : Prop := i < (newD x.c).c.ms.length
abbrev z_prov_89 (x : Prv) (i : Nat) : Int := (gD (newD x.c).c.ms i).pl
abbrev z_prov_90 (x : Prv) (i : Nat) : Int := (gD (newD x.c).c.ms i).ht
abbrev z_prov_91 (i : Nat) (x : Prv) : Prop := i < (newD x.c).c.ns.length
abbrev z_prov_92 (x : Prv) (i : Nat) : Int := (gD (newD x.c).c.ns i).mi
abbrev z_prov_93 (x : Prv) (i : Nat) : Span := (gD (newD x.c).c.ns i).t
abbrev z_prov_94 (x : Prv) (i : Nat) : Int := (z_prov_93 x i).lo
abbrev z_prov_95 (x : Prv) (i : Nat) : Int := (z_prov_93 x i).hi
abbrev z_prov_96 (x : Prv) (i : Nat) : Span := (gD (newD x.c).c.ns i).s
abbrev z_prov_97 (x : Prv) (i : Nat) : Int := (z_prov_96 x i).lo
abbrev z_prov_98 (x : Prv) (i : Nat) : Int := (z_prov_96 x i).hi
abbrev z_prov_99 : Prop := 40 = 40
abbrev z_prov_100 (a : Nat) (x : Prv) : Prop := a <= x.l.length /\ pvK x a = true
abbrev z_prov_101 (a : Nat) (x : Prv) : Prop := (↑a : Int) < (↑x.l.length : Int)
abbrev z_prov_102 (x : Prv) : Prop := (newD x.c).c.p.lo = (newD x.c).c.p.lo
abbrev z_prov_103 (x : Prv) : Prop := (newD x.c).c.p.hi = (newD x.c).c.p.hi
abbrev z_prov_104 (x : Prv) : Prop := (newD x.c).c.base = (newD x.c).c.base
abbrev z_prov_105 (x : Prv) : Prop := (newD x.c).c.scale = (newD x.c).c.scale
abbrev z_prov_106 (x : Prv) : Prop := (newD x.c).c.off = (newD x.c).c.off
abbrev z_prov_107 (x : Prv) : List Mk := rng (newD x.c).c.ms.length λ (i : Nat) => gD (newD x.c).c.ms i
abbrev z_prov_108 (x : Prv) : Nat := (z_prov_107 x).length
abbrev z_prov_109 (x : Prv) (i : Nat) : Mk := gD (z_prov_107 x) i
abbrev z_prov_110 (x : Prv) (i : Nat) : Int := (z_prov_109 x i).pl
abbrev z_prov_111 (x : Prv) (i : Nat) : Int := (z_prov_109 x i).ht
abbrev z_prov_112 (x : Prv) : List Nt := rng (newD x.c).c.ns.length λ (i : Nat) => gD (newD x.c).c.ns i
abbrev z_prov_113 (x : Prv) : Nat := (z_prov_112 x).length
abbrev z_prov_114 (i : Nat) (x : Prv) : Prop := i < z_prov_113 x
abbrev z_prov_115 (x : Prv) (i : Nat) : Nt := gD (z_prov_112 x) i
abbrev z_prov_116 (x : Prv) (i : Nat) : Int := (z_prov_115 x i).mi
abbrev z_prov_117 (x : Prv) (i : Nat) : Span := (z_prov_115 x i).t
abbrev z_prov_118 (x : Prv) (i : Nat) : Int := (z_prov_117 x i).lo
abbrev z_prov_119 (x : Prv) (i : Nat) : Int := (z_prov_117 x i).hi
abbrev z_prov_120 (x : Prv) (i : Nat) : Span := (z_prov_115 x i).s
abbrev z_prov_121 (x : Prv) (i : Nat) : Int := (z_prov_120 x i).lo
abbrev z_prov_122 (x : Prv) (i : Nat) : Int := (z_prov_120 x i).hi
abbrev z_prov_123 (x : Prv) (n : Int) : Bool := hasN (z_prov_112 x) n
abbrev z_prov_124 (x : Prv) : Prop := ∀ (n : Int), (newD x.c).st n = (newD x.c).st n
abbrev z_prov_125 (x : Prv) (n : Int) : Nt := ntOf (z_prov_112 x) n
abbrev z_prov_126 (x : Prv) (n : Int) : Int := (z_prov_125 x n).mi
abbrev z_prov_127 (x : Prv) (n : Int) : Span := (z_prov_125 x n).t
abbrev z_prov_128 (x : Prv) (n : Int) : Int := (z_prov_127 x n).lo
abbrev z_prov_129 (x : Prv) (n : Int) : Int := (z_prov_127 x n).hi
abbrev z_prov_130 (x : Prv) (n : Int) : Span := (z_prov_125 x n).s
abbrev z_prov_131 (x : Prv) (n : Int) : Int := (z_prov_130 x n).lo
abbrev z_prov_132 (x : Prv) (n : Int) : Int := (z_prov_130 x n).hi
abbrev z_prov_133 (x : Prv) (a : Nat) : Prop := 0 <= (gD x.l a).a
abbrev z_prov_134 (x : Prv) : Prop := (provO x).snd = 0
abbrev z_prov_135 (x : Prv) : Prop := (provO x).fst = false /\ z_prov_134 x
abbrev z_prov_136 (x : Prv) (a : IJ) : Int := pvA x a.i + (↑a.j : Int)
abbrev z_prov_137 (x : Prv) : Prop := (newD x.c).c.ms.length = (newD x.c).c.ms.length
abbrev z_prov_138 (x : Prv) : Prop := ∀ (i : Nat), z_prov_88 i x -> z_prov_89 x i = z_prov_89 x i /\ z_prov_90 x i = z_prov_90 x i
abbrev z_prov_139 (x : Prv) : Prop := (newD x.c).c.ns.length = (newD x.c).c.ns.length
abbrev z_prov_140 (x : Prv) : Prop := ∀ (i : Nat), z_prov_91 i x -> z_prov_92 x i = z_prov_92 x i /\ z_prov_94 x i = z_prov_94 x i /\ z_prov_95 x i = z_prov_95 x i /\ z_prov_97 x i = z_prov_97 x i /\ z_prov_98 x i = z_prov_98
 x i
abbrev z_prov_141 (x : Prv) : Prop := ∀ (n : Int), hasN (newD x.c).c.ns n = hasN (newD x.c).c.ns n
abbrev z_prov_142 (x : Prv) : Prop := ∀ (n : Int), (ntOf (newD x.c).c.ns n).mi = (ntOf (newD x.c).c.ns n).mi /\ (ntOf (newD x.c).c.ns n).t.lo = (ntOf (newD x.c).c.ns n).t.lo /\ (ntOf (newD x.c).c.ns n).t.hi = (ntOf (newD
 x.c).c.ns n).t.hi /\ (ntOf (newD x.c).c.ns n).s.lo = (ntOf (newD x.c).c.ns n).s.lo /\ (ntOf (newD x.c).c.ns n).s.hi = (ntOf (newD x.c).c.ns n).s.hi
abbrev z_prov_143 (x : Prv) (a : Nat) : Nat := x.l.length - a
abbrev z_prov_144 (a : IJ) (x : Prv) (a1 : Nat) : Prop := (a.i < x.l.length /\ x.l.length - a.i = z_prov_143 x a1) /\ (pvK x a.i = true /\ lateM x.c (gD x.l a.i) = true) /\ z_prov_136 x a <= pvB x a.i /\ hitJ (mtF x a.i) (pvA
 x a.i).toNat a.j = false
abbrev z_prov_145 (x : Prv) (a : IJ) : Nat := (z_prov_136 x a).toNat
abbrev z_prov_146 (x : Prv) (a : IJ) : Prop := (0 <= z_prov_136 x a /\ z_prov_136 x a < (↑40 : Int)) /\ (z_prov_145 x a).succ.le 40
abbrev z_prov_147 (a : IJ) : Nat := 50 - a.j
theorem vc_prov (x : Prv) : (V_prov x) = ((z_prov_0 x /\ z_prov_1 x /\ x.c.base = x.c.base /\ x.c.scale = x.c.scale /\ x.c.off = x.c.off /\ z_prov_3 x = x.c.ms.length /\ (∀ (i : Nat), i < z_prov_3 x -> (z_prov_4 x i).pl = (gD
 x.c.ms i).pl /\ (z_prov_4 x i).ht = (gD x.c.ms i).ht) /\ z_prov_6 x = x.c.ns.length /\ (∀ (i : Nat), i < z_prov_6 x -> (z_prov_7 x i).mi = (gD x.c.ns i).mi /\ (z_prov_8 x i).lo = (gD x.c.ns i).t.lo /\ (z_prov_8 x i).hi = (gD
 x.c.ns i).t.hi /\ (z_prov_9 x i).lo = (gD x.c.ns i).s.lo /\ (z_prov_9 x i).hi = (gD x.c.ns i).s.hi) /\ (z_prov_3 x < 4611686018427387904 /\ z_prov_6 x < 4611686018427387904) /\ checkC (z_prov_10 x) = 0) /\ bif decide
 ((↑x.l.length : Int) > 40) then (provO x).fst = false /\ (provO x).snd = 3 else (z_prov_12 x = x.l.length /\ (∀ (i : Nat), i < z_prov_12 x -> (z_prov_13 x i).a = (gD x.l i).a /\ (z_prov_13 x i).b = (gD x.l i).b) /\ z_prov_18
 x /\ z_prov_20 x /\ z_prov_22 x /\ z_prov_24 x /\ z_prov_26 x /\ z_prov_31 x = z_prov_28 x /\ (∀ (i : Nat), i < z_prov_31 x -> z_prov_33 x i = z_prov_34 x i /\ z_prov_35 x i = z_prov_36 x i) /\ z_prov_41 x = z_prov_38 x /\ (∀ (i :
 Nat), i < z_prov_41 x -> z_prov_43 x i = z_prov_44 x i /\ z_prov_46 x i = z_prov_48 x i /\ z_prov_49 x i = z_prov_50 x i /\ z_prov_52 x i = z_prov_54 x i /\ z_prov_55 x i = z_prov_56 x i) /\ z_prov_57 /\ zNt = zNt /\ (∀ (n :
 Int), z_prov_58 x n = z_prov_59 x n) /\ z_prov_61 x /\ (∀ (n : Int), z_prov_63 x n = z_prov_65 x n /\ z_prov_67 x n = z_prov_69 x n /\ z_prov_70 x n = z_prov_71 x n /\ z_prov_73 x n = z_prov_75 x n /\ z_prov_76 x n = z_prov_77
 x n) /\ z_prov_18 x /\ z_prov_20 x /\ z_prov_22 x /\ z_prov_24 x /\ z_prov_26 x /\ z_prov_28 x = z_prov_31 x /\ (∀ (i : Nat), i < z_prov_28 x -> z_prov_34 x i = z_prov_33 x i /\ z_prov_36 x i = z_prov_35 x i) /\ z_prov_38 x =
 z_prov_41 x /\ (∀ (i : Nat), i < z_prov_38 x -> z_prov_44 x i = z_prov_43 x i /\ z_prov_48 x i = z_prov_46 x i /\ z_prov_50 x i = z_prov_49 x i /\ z_prov_54 x i = z_prov_52 x i /\ z_prov_56 x i = z_prov_55 x i) /\ z_prov_57 /\
 zNt = zNt /\ (∀ (n : Int), z_prov_59 x n = z_prov_58 x n) /\ z_prov_61 x /\ (∀ (n : Int), z_prov_65 x n = z_prov_63 x n /\ z_prov_69 x n = z_prov_67 x n /\ z_prov_71 x n = z_prov_70 x n /\ z_prov_75 x n = z_prov_73 x n /\
 z_prov_77 x n = z_prov_76 x n) /\ z_prov_12 x < 4611686018427387904 /\ z_prov_41 x < 1073741824) /\ bif !(z_prov_11 x).all λ (x_1 : Pr) => pairM (Cht.mk (z_prov_16 x) (z_prov_21 x) (z_prov_23 x) (z_prov_25 x) (z_prov_30
 x) (z_prov_40 x)) x_1 then (provO x).fst = false /\ (provO x).snd = 2 else (Value.agg #[Value.bool false, Value.bool false, Value.bool false, Value.bool false, Value.bool false, Value.bool false, Value.bool false,
 Value.bool false, Value.bool false, Value.bool false, Value.bool false, Value.bool false, Value.bool false, Value.bool false, Value.bool false, Value.bool false, Value.bool false, Value.bool false, Value.bool false,
 Value.bool false, Value.bool false, Value.bool false, Value.bool false, Value.bool false, Value.bool false, Value.bool false, Value.bool false, Value.bool false, Value.bool false, Value.bool false, Value.bool false,
 Value.bool false, Value.bool false, Value.bool false, Value.bool false, Value.bool false, Value.bool false, Value.bool false, Value.bool false, Value.bool false]).cells.toList = (List.replicate 40 (Value.bool
 false).cells.toList).flatten /\ (∃ (a : Nat), (x.m = x.m /\ z_prov_78 x /\ z_prov_81 x /\ z_prov_82 /\ z_prov_78 x /\ z_prov_81 x /\ z_prov_83 x /\ (↑a : Int) = 0 /\ z_prov_0 x /\ z_prov_1 x /\ x.c.base = x.c.base /\ x.c.scale =
 x.c.scale /\ x.c.off = x.c.off /\ z_prov_84 x /\ z_prov_85 x /\ z_prov_86 x /\ z_prov_87 x /\ (newD x.c).c.p.lo = z_prov_17 x /\ (newD x.c).c.p.hi = z_prov_19 x /\ (newD x.c).c.base = z_prov_21 x /\ (newD x.c).c.scale = z_prov_23
 x /\ (newD x.c).c.off = z_prov_25 x /\ (newD x.c).c.ms.length = z_prov_28 x /\ (∀ (i : Nat), z_prov_88 i x -> z_prov_89 x i = z_prov_34 x i /\ z_prov_90 x i = z_prov_36 x i) /\ (newD x.c).c.ns.length = z_prov_38 x /\ (∀ (i :
 Nat), z_prov_91 i x -> z_prov_92 x i = z_prov_44 x i /\ z_prov_94 x i = z_prov_48 x i /\ z_prov_95 x i = z_prov_50 x i /\ z_prov_97 x i = z_prov_54 x i /\ z_prov_98 x i = z_prov_56 x i) /\ z_prov_57 /\ zNt = zNt /\ (∀ (n : Int),
 hasN (newD x.c).c.ns n = z_prov_59 x n) /\ (∀ (n : Int), (newD x.c).st n = z_prov_60 x n) /\ (∀ (n : Int), (ntOf (newD x.c).c.ns n).mi = z_prov_65 x n /\ (ntOf (newD x.c).c.ns n).t.lo = z_prov_69 x n /\ (ntOf (newD x.c).c.ns
 n).t.hi = z_prov_71 x n /\ (ntOf (newD x.c).c.ns n).s.lo = z_prov_75 x n /\ (ntOf (newD x.c).c.ns n).s.hi = z_prov_77 x n) /\ z_prov_99 /\ ∀ (i : Nat), i < 40 -> mtF x a i = false) /\ z_prov_100 a x) /\ ∀ (a : Nat), z_prov_100
 a x -> bif decide (z_prov_101 a x) then (0 <= (↑a : Int) /\ z_prov_101 a x) /\ (z_prov_79 x a /\ z_prov_80 x a /\ z_prov_102 x /\ z_prov_103 x /\ z_prov_104 x /\ z_prov_105 x /\ z_prov_106 x /\ z_prov_108 x = (newD x.c).c.ms.length
 /\ (∀ (i : Nat), i < z_prov_108 x -> z_prov_110 x i = z_prov_89 x i /\ z_prov_111 x i = z_prov_90 x i) /\ z_prov_113 x = (newD x.c).c.ns.length /\ (∀ (i : Nat), z_prov_114 i x -> z_prov_116 x i = z_prov_92 x i /\ z_prov_118 x i
 = z_prov_94 x i /\ z_prov_119 x i = z_prov_95 x i /\ z_prov_121 x i = z_prov_97 x i /\ z_prov_122 x i = z_prov_98 x i) /\ z_prov_57 /\ zNt = zNt /\ (∀ (n : Int), z_prov_123 x n = hasN (newD x.c).c.ns n) /\ z_prov_124 x /\ (∀ (n
 : Int), z_prov_126 x n = (ntOf (newD x.c).c.ns n).mi /\ z_prov_128 x n = (ntOf (newD x.c).c.ns n).t.lo /\ z_prov_129 x n = (ntOf (newD x.c).c.ns n).t.hi /\ z_prov_131 x n = (ntOf (newD x.c).c.ns n).s.lo /\ z_prov_132 x n =
 (ntOf (newD x.c).c.ns n).s.hi) /\ z_prov_102 x /\ z_prov_103 x /\ z_prov_104 x /\ z_prov_105 x /\ z_prov_106 x /\ (newD x.c).c.ms.length = z_prov_108 x /\ (∀ (i : Nat), z_prov_88 i x -> z_prov_89 x i = z_prov_110 x i /\ z_prov_90
 x i = z_prov_111 x i) /\ (newD x.c).c.ns.length = z_prov_113 x /\ (∀ (i : Nat), z_prov_91 i x -> z_prov_92 x i = z_prov_116 x i /\ z_prov_94 x i = z_prov_118 x i /\ z_prov_95 x i = z_prov_119 x i /\ z_prov_97 x i = z_prov_121
 x i /\ z_prov_98 x i = z_prov_122 x i) /\ z_prov_57 /\ zNt = zNt /\ (∀ (n : Int), hasN (newD x.c).c.ns n = z_prov_123 x n) /\ z_prov_124 x /\ (∀ (n : Int), (ntOf (newD x.c).c.ns n).mi = z_prov_126 x n /\ (ntOf (newD x.c).c.ns
 n).t.lo = z_prov_128 x n /\ (ntOf (newD x.c).c.ns n).t.hi = z_prov_129 x n /\ (ntOf (newD x.c).c.ns n).s.lo = z_prov_131 x n /\ (ntOf (newD x.c).c.ns n).s.hi = z_prov_132 x n) /\ ((z_prov_133 x a /\ (gD x.l a).a <
 (↑(z_prov_113 x) : Int)) /\ 0 <= (gD x.l a).b /\ (gD x.l a).b < (↑(z_prov_113 x) : Int)) /\ (z_prov_108 x <= 40 /\ z_prov_113 x <= 20) /\ ∀ (i : Nat), z_prov_114 i x -> 0 <= z_prov_116 x i /\ z_prov_116 x i < (↑(z_prov_108 x) :
 Int)) /\ bif !lateM (Cht.mk (newD x.c).c.p (newD x.c).c.base (newD x.c).c.scale (newD x.c).c.off (z_prov_107 x) (z_prov_112 x)) (gD x.l a) then z_prov_135 x else (z_prov_133 x a /\ (gD x.l a).a < (↑x.c.ns.length : Int)) /\
 (∃ (a_2 : IJ), (z_prov_136 x a_2 = (gD x.c.ns (gD x.l a).a.toNat).mi /\ x.m = x.m /\ z_prov_78 x /\ z_prov_81 x /\ z_prov_82 /\ z_prov_78 x /\ z_prov_81 x /\ z_prov_83 x /\ (↑a_2.i : Int) = (↑a : Int) /\ z_prov_0 x /\ z_prov_1 x /\
 x.c.base = x.c.base /\ x.c.scale = x.c.scale /\ x.c.off = x.c.off /\ z_prov_84 x /\ z_prov_85 x /\ z_prov_86 x /\ z_prov_87 x /\ z_prov_102 x /\ z_prov_103 x /\ z_prov_104 x /\ z_prov_105 x /\ z_prov_106 x /\ z_prov_137 x /\
 z_prov_138 x /\ z_prov_139 x /\ z_prov_140 x /\ z_prov_57 /\ zNt = zNt /\ z_prov_141 x /\ z_prov_124 x /\ z_prov_142 x /\ z_prov_99 /\ (∀ (i : Nat), i < 40 -> mtG x a_2.i a_2.j i = mtF x a i) /\ (gD x.l a_2.i).a = (gD x.l a).a /\
 (gD x.l a_2.i).b = (gD x.l a).b) /\ z_prov_144 a_2 x a) /\ ∀ (a_2 : IJ), z_prov_144 a_2 x a -> (0 <= (gD x.l a_2.i).b /\ (gD x.l a_2.i).b < (↑x.c.ns.length : Int)) /\ bif decide (z_prov_136 x a_2 < (gD x.c.ns (gD x.l
 a_2.i).b.toNat).mi) then z_prov_146 x a_2 /\ bif mtG x a_2.i a_2.j (z_prov_145 x a_2) then z_prov_135 x else z_prov_146 x a_2 /\ ∃ (a_4 : IJ), (z_prov_136 x a_4 = IntKind.i64.wrap (z_prov_136 x a_2 + 1) /\ x.m = x.m /\
 z_prov_78 x /\ z_prov_81 x /\ z_prov_82 /\ z_prov_78 x /\ z_prov_81 x /\ z_prov_83 x /\ (↑a_4.i : Int) = (↑a_2.i : Int) /\ z_prov_0 x /\ z_prov_1 x /\ x.c.base = x.c.base /\ x.c.scale = x.c.scale /\ x.c.off = x.c.off /\ z_prov_84 x
 /\ z_prov_85 x /\ z_prov_86 x /\ z_prov_87 x /\ z_prov_102 x /\ z_prov_103 x /\ z_prov_104 x /\ z_prov_105 x /\ z_prov_106 x /\ z_prov_137 x /\ z_prov_138 x /\ z_prov_139 x /\ z_prov_140 x /\ z_prov_57 /\ zNt = zNt /\ z_prov_141 x /\
 z_prov_124 x /\ z_prov_142 x /\ z_prov_99 /\ (∀ (i : Nat), i < 40 -> mtG x a_4.i a_4.j i = bif decide (i = z_prov_145 x a_2) then true else mtG x a_2.i a_2.j i) /\ (gD x.l a_4.i).a = (gD x.l a_2.i).a /\ (gD x.l a_4.i).b = (gD
 x.l a_2.i).b) /\ z_prov_144 a_4 x a /\ z_prov_147 a_4 < z_prov_147 a_2 else ∃ (a_4 : Nat), (x.m = x.m /\ z_prov_78 x /\ z_prov_81 x /\ z_prov_82 /\ z_prov_78 x /\ z_prov_81 x /\ z_prov_83 x /\ (↑a_4 : Int) = IntKind.i64.wrap
 ((↑a_2.i : Int) + 1) /\ z_prov_0 x /\ z_prov_1 x /\ x.c.base = x.c.base /\ x.c.scale = x.c.scale /\ x.c.off = x.c.off /\ z_prov_84 x /\ z_prov_85 x /\ z_prov_86 x /\ z_prov_87 x /\ z_prov_102 x /\ z_prov_103 x /\ z_prov_104 x /\
 z_prov_105 x /\ z_prov_106 x /\ z_prov_137 x /\ z_prov_138 x /\ z_prov_139 x /\ z_prov_140 x /\ z_prov_57 /\ zNt = zNt /\ z_prov_141 x /\ z_prov_124 x /\ z_prov_142 x /\ z_prov_99 /\ ∀ (i : Nat), i < 40 -> mtF x a_4 i = mtG x a_2.i
 a_2.j i) /\ z_prov_100 a_4 x /\ z_prov_143 x a_4 < z_prov_143 x a else (provO x).fst = decide ((↑x.l.length : Int) >= x.m) /\ z_prov_134 x) := by kernel_rfl
def A_provX : Ann := ann 71 [(n_opened, C_openX.spec dC1)]
def V_provX (x : Prv) : Prop := fnVC Try.prog A_provX F_Proves (bodyOf F_Proves) (xPrv x) (heapOf []) (.tup [.bool false, .int (checkC x.c)]) [] [] []
theorem vc_provX (x : Prv) : (V_provX x) = ((x.c.p.lo = x.c.p.lo /\ x.c.p.hi = x.c.p.hi /\ x.c.base = x.c.base /\ x.c.scale = x.c.scale /\ x.c.off = x.c.off /\ (rng x.c.ms.length λ (i : Nat) => gD x.c.ms i).length =
 x.c.ms.length /\ (∀ (i : Nat), i < (rng x.c.ms.length λ (i : Nat) => gD x.c.ms i).length -> (gD (rng x.c.ms.length λ (i : Nat) => gD x.c.ms i) i).pl = (gD x.c.ms i).pl /\ (gD (rng x.c.ms.length λ (i : Nat) => gD
 x.c.ms i) i).ht = (gD x.c.ms i).ht) /\ (rng x.c.ns.length λ (i : Nat) => gD x.c.ns i).length = x.c.ns.length /\ (∀ (i : Nat), i < (rng x.c.ns.length λ (i : Nat) => gD x.c.ns i).length -> (gD (rng x.c.ns.length λ (i :
 Nat) => gD x.c.ns i) i).mi = (gD x.c.ns i).mi /\ (gD (rng x.c.ns.length λ (i : Nat) => gD x.c.ns i) i).t.lo = (gD x.c.ns i).t.lo /\ (gD (rng x.c.ns.length λ (i : Nat) => gD x.c.ns i) i).t.hi = (gD x.c.ns i).t.hi /\ (gD
 (rng x.c.ns.length λ (i : Nat) => gD x.c.ns i) i).s.lo = (gD x.c.ns i).s.lo /\ (gD (rng x.c.ns.length λ (i : Nat) => gD x.c.ns i) i).s.hi = (gD x.c.ns i).s.hi) /\ ((rng x.c.ms.length λ (i : Nat) => gD x.c.ms
 i).length < 4611686018427387904 /\ (rng x.c.ns.length λ (i : Nat) => gD x.c.ns i).length < 4611686018427387904) /\ checkC (Cht.mk x.c.p x.c.base x.c.scale x.c.off (rng x.c.ms.length λ (i : Nat) => gD x.c.ms i) (rng
 x.c.ns.length λ (i : Nat) => gD x.c.ns i)) ≠ 0) /\ bif checkC (Cht.mk x.c.p x.c.base x.c.scale x.c.off (rng x.c.ms.length λ (i : Nat) => gD x.c.ms i) (rng x.c.ns.length λ (i : Nat) => gD x.c.ns i)) != 0 then false =
 false /\ checkC x.c = checkC (Cht.mk x.c.p x.c.base x.c.scale x.c.off (rng x.c.ms.length λ (i : Nat) => gD x.c.ms i) (rng x.c.ns.length λ (i : Nat) => gD x.c.ns i)) else bif decide ((↑x.l.length : Int) > 40) then
 false = false /\ checkC x.c = 3 else False) := by kernel_rfl
theorem pair_in {c : Cht} {p : Pr} (hn : c.ns.length < 1073741824) (h : pairM c p = true) : ((0 <= p.a /\ p.a < c.ns.length) /\ 0 <= p.b /\ p.b < c.ns.length) /\ (nA c p).mi < (nB c p).mi := by
 unfold pairM at h
 cases hq : pairI c.ns.length p with
 | false => rw [hq] at h; cases h
 | true =>
  rw [hq] at h
  have h : (bif (!(p.a == p.b && p.b == p.a)) then decide ((nA c p).mi < (nB c p).mi) else false) = true := h
  unfold pairI wr inM at hq
  rw [w64 (by omega) (by omega)] at hq
  simp only [Bool.and_eq_true, decide_eq_true_eq] at hq
  refine ⟨⟨by omega, by omega⟩, ?_⟩
  cases hb : (!(p.a == p.b && p.b == p.a)) with
  | false => rw [hb] at h; cases h
  | true => rw [hb] at h; exact of_decide_eq_true h
theorem pvK_down {x : Prv} : ∀ {m k : Nat}, k <= m -> pvK x m = true -> pvK x k = true
 | 0, k, h, hm => by
  obtain rfl : k = 0 := by omega
  rfl
 | m + 1, k, h, hm => by
  by_cases hk : k = m + 1
  ·subst hk; exact hm
  ·have h2 : (pvK x m && lateM x.c (gD x.l m) && !hitJ (mtF x m) (pvA x m).toNat (pvB x m - pvA x m).toNat) = true := hm
   rw [Bool.and_eq_true, Bool.and_eq_true] at h2
   exact pvK_down (by omega) h2.1.1
theorem hit_up {f : Nat -> Bool} {a : Nat} : ∀ {m k : Nat}, k <= m -> hitJ f a k = true -> hitJ f a m = true
 | 0, k, h, hm => by
  obtain rfl : k = 0 := by omega
  exact hm
 | m + 1, k, h, hm => by
  by_cases hk : k = m + 1
  ·subst hk; exact hm
  ·show (hitJ f a m || f (a + m)) = true
   rw [hit_up (show k <= m by omega) hm]; rfl
theorem prov_no {x : Prv} (h1 : ¬(x.l.length : Int) > 40) (h2 : (x.l.all λ p => pairM x.c p) = true) {k : Nat} (hk : k < x.l.length) (h3 : pvK x (k + 1) = false) : (provO x).1 = false /\ (provO x).2 = 0 := by
 have h : pvK x x.l.length = false := by
  cases hq : pvK x x.l.length with
  | false => rfl
  | true => rw [pvK_down (show k + 1 <= x.l.length from hk) hq] at h3; cases h3
 unfold provO; rw [decide_eq_false h1, h2, h]; exact ⟨rfl, rfl⟩
theorem p_prov (x : Prv) (h1 : x.c.ms.length < 4611686018427387904 /\ x.c.ns.length < 4611686018427387904 /\ x.l.length < 4611686018427387904) (h0 : checkC x.c = 0) : V_prov x := by
 have hl := headC_len h0
 have hs := nsIn_of h0
 have hM := mi_in hs.1
 rw [vc_prov]; delta z_prov_0 z_prov_1 z_prov_2 z_prov_3 z_prov_4 z_prov_5 z_prov_6 z_prov_7 z_prov_8 z_prov_9 z_prov_10 z_prov_11 z_prov_12 z_prov_13 z_prov_14 z_prov_15 z_prov_16 z_prov_17 z_prov_18 z_prov_19 z_prov_20 z_prov_21 z_prov_22 z_prov_23 z_prov_24 z_prov_25 z_prov_26 z_prov_27 z_prov_28 z_prov_29 z_prov_30 z_prov_31 z_prov_32 z_prov_33 z_prov_34 z_prov_35 z_prov_36 z_prov_37 z_prov_38 z_prov_39 z_prov_40 z_prov_41 z_prov_42 z_prov_43 z_prov_44 z_prov_45 z_prov_46 z_prov_47 z_prov_48 z_prov_49 z_prov_50 z_prov_51 z_prov_52 z_prov_53 z_prov_54 z_prov_55 z_prov_56 z_prov_57 z_prov_58 z_prov_59 z_prov_60 z_prov_61 z_prov_62 z_prov_63 z_prov_64 z_prov_65 z_prov_66 z_prov_67 z_prov_68 z_prov_69 z_prov_70 z_prov_71 z_prov_72 z_prov_73 z_prov_74 z_prov_75 z_prov_76 z_prov_77 z_prov_78 z_prov_79 z_prov_80 z_prov_81 z_prov_82 z_prov_83 z_prov_84 z_prov_85 z_prov_86 z_prov_87 z_prov_88 z_prov_89 z_prov_90 z_prov_91 z_prov_92 z_prov_93 z_prov_94 z_prov_95 z_prov_96 z_prov_97 z_prov_98 z_prov_99 z_prov_100 z_prov_101 z_prov_102 z_prov_103 z_prov_104 z_prov_105 z_prov_106 z_prov_107 z_prov_108 z_prov_109 z_prov_110 z_prov_111 z_prov_112 z_prov_113 z_prov_114 z_prov_115 z_prov_116 z_prov_117 z_prov_118 z_prov_119 z_prov_120 z_prov_121 z_prov_122 z_prov_123 z_prov_124 z_prov_125 z_prov_126 z_prov_127 z_prov_128 z_prov_129 z_prov_130 z_prov_131 z_prov_132 z_prov_133 z_prov_134 z_prov_135 z_prov_136 z_prov_137 z_prov_138 z_prov_139 z_prov_140 z_prov_141 z_prov_142 z_prov_143 z_prov_144 z_prov_145 z_prov_146 z_prov_147; simp only [condP, eq_self, implies_true, and_self, true_and, and_true, true_implies, forall_const, decide_eq_true_eq, decide_eq_false_iff_not, Int.toNat_natCast, dSpan_eSpan, dInt_eInt, dMk_e, dNt_e, dPr_e, Nat.zero_add, Int.zero_sub, Nat.le_eq, Nat.succ_eq_add_one, Nat.add_one_le_iff, Bool.not_eq_true', Bool.not_eq_false', rng_length, dSpan_mk, rng_getD, cht_eta, newD_c, dk_eta, stD_c, newD_eta, dPr_m]
 refine ⟨⟨⟨h1.1, h1.2.1⟩, h0⟩, λ hc => ?_, λ hc => ⟨⟨h1.2.2, by omega⟩, λ ha => ?_, λ ha => ⟨rfl, ⟨0, ⟨rfl, λ _ _ => rfl⟩, Nat.zero_le _, rfl⟩, ?_⟩⟩⟩
 ·unfold provO; rw [decide_eq_true hc]; exact ⟨rfl, rfl⟩
 ·unfold provO; rw [decide_eq_false hc, ha]; exact ⟨rfl, rfl⟩
 ·rintro k ⟨hk, hp⟩
  have hP : ∀ k, k < x.l.length -> _ := λ k hk => pair_in (by omega) (List.all_eq_true.1 ha _ (gD_mem hk))
  have mA : ∀ k, k < x.l.length -> 0 <= pvA x k /\ pvA x k < x.c.ms.length := λ k hk => hM _ (by have := (hP k hk).1; omega)
  have mB : ∀ k, k < x.l.length -> 0 <= pvB x k /\ pvB x k < x.c.ms.length := λ k hk => hM _ (by have := (hP k hk).1; omega)
  have mL : ∀ k, k < x.l.length -> pvA x k < pvB x k := λ k hk => (hP k hk).2
  have eB : ∀ k, (gD x.c.ns (gD x.l k).b.toNat).mi = pvB x k := λ _ => rfl
  have eA : ∀ k, (gD x.c.ns (gD x.l k).a.toNat).mi = pvA x k := λ _ => rfl
  refine ⟨λ hlt => ⟨⟨by omega, by omega⟩, ⟨(hP k (by omega)).1, ⟨hl.2.1.2, hl.2.2⟩, hM⟩, λ hL => ?_, λ hL => ⟨(hP k (by omega)).1.1, ⟨⟨k, 0⟩, ⟨by rw [eA]; show pvA x k + ((0 : Nat) : Int) = _; omega, rfl, λ i hi => ?_, rfl, rfl⟩, ⟨by show k < _; omega, rfl⟩, ⟨hp, hL⟩, by have := mL k (by omega); show pvA x k + ((0 : Nat) : Int) <= pvB x k; omega, rfl⟩, ?_⟩⟩, λ hge => ?_⟩
  ·refine prov_no hc ha (k := k) (by omega) ?_
   show (pvK x k && lateM x.c (gD x.l k) && _) = false
   rw [hL]; simp
  ·show (mtF x k i || (decide (pvA x k <= i) && decide ((i : Int) < pvA x k + ((0 : Nat) : Int)))) = mtF x k i
   rw [show (decide (pvA x k <= i) && decide ((i : Int) < pvA x k + ((0 : Nat) : Int))) = false by simp, Bool.or_false]
  ·rintro ⟨i, j⟩ ⟨⟨y1, y2⟩, ⟨y3, y4⟩, y5, y6⟩
   dsimp only at y1 y2 y3 y4 y5 y6 ⊢
   simp only [eB]
   have a1 := mA i y1
   have b1 := mB i y1
   have l1 := mL i y1
   have e : (pvA x i + (j : Int)).toNat = (pvA x i).toNat + j := by omega
   have eG : mtG x i j ((pvA x i).toNat + j) = mtF x i ((pvA x i).toNat + j) := by
    show (mtF x i _ || (decide (pvA x i <= _) && decide (_ < pvA x i + (j : Int)))) = _
    rw [decide_eq_false (show ¬(((pvA x i).toNat + j : Nat) : Int) < pvA x i + (j : Int) by omega), Bool.and_false, Bool.or_false]
   refine ⟨(hP i y1).1.2, λ hb => ⟨⟨⟨by omega, by omega⟩, by omega⟩, λ hm => ?_, λ hm => ⟨⟨⟨by omega, by omega⟩, by omega⟩, ⟨i, j + 1⟩, ⟨?_, rfl, λ t ht => ?_, rfl, rfl⟩, ⟨⟨y1, y2⟩, ⟨y3, y4⟩, by show pvA x i + ((j + 1 : Nat) : Int) <= pvB x i; omega, ?_⟩, by show 50 - (j + 1) < _; omega⟩⟩, λ hb => ⟨i + 1, ⟨by rw [w64 (by omega) (by omega)]; rfl, λ t ht => ?_⟩, ⟨by omega, ?_⟩, by omega⟩⟩
   ·rw [e, eG] at hm
    refine prov_no hc ha (k := i) y1 ?_
    have h9 : hitJ (mtF x i) (pvA x i).toNat (j + 1) = true := by
     show (hitJ _ _ _ || _) = true
     rw [hm, Bool.or_true]
    show (pvK x i && lateM x.c (gD x.l i) && !hitJ _ _ _) = false
    rw [hit_up (show j + 1 <= (pvB x i - pvA x i).toNat by omega) h9]; simp
   ·show pvA x i + ((j + 1 : Nat) : Int) = _
    rw [w64 (by omega) (by omega)]; omega
   ·show (mtF x i t || (decide (pvA x i <= t) && decide ((t : Int) < pvA x i + ((j + 1 : Nat) : Int)))) = bif _ then true else (mtF x i t || (decide (pvA x i <= t) && decide ((t : Int) < pvA x i + (j : Int))))
    rw [e]
    by_cases h7 : t = (pvA x i).toNat + j
    ·rw [decide_eq_true h7, decide_eq_true (show pvA x i <= t by omega), decide_eq_true (show (t : Int) < pvA x i + ((j + 1 : Nat) : Int) by omega)]; simp
    ·rw [decide_eq_false h7]
     show _ = (mtF x i t || _)
     congr 2
     exact decide_eq_decide.2 (by omega)
   ·rw [e, eG] at hm
    show (hitJ _ _ _ || _) = false
    rw [y6, hm]; rfl
   ·have e3 : pvA x i + (j : Int) = pvB x i := by omega
    show (mtF x i t || _) = (mtF x i t || (decide (pvA x i <= t) && decide ((t : Int) < pvA x i + (j : Int))))
    rw [e3]
   ·have e3 : (pvB x i - pvA x i).toNat = j := by omega
    show (pvK x i && lateM x.c (gD x.l i) && !hitJ _ _ _) = true
    rw [e3, y3, y4, y6]; rfl
  ·have e : k = x.l.length := by omega
   subst e
   unfold provO; rw [decide_eq_false hc, ha, hp]; exact ⟨by simp, rfl⟩
theorem ok_prov : SpecOk Try.prog n_Proves (C_prov.spec dPrv) := okT C_prov (λ (x : Prv) h => by
 have h1 : x.c.ms.length < 4611686018427387904 /\ x.c.ns.length < 4611686018427387904 /\ x.l.length < 4611686018427387904 := h
 by_cases h0 : checkC x.c = 0
 ·have e : C_prov.val x = .tup [.bool (provO x).1, .int (provO x).2] := by
   show AVal.tup [.bool (provV x).1, .int (provV x).2] = _
   unfold provV; rw [h0]; rfl
  rw [e]
  exact fnt (A := A_prov x) (L := []) (keep := []) (ren := []) (fz := []) fn_Proves (by kernel_rfl) (gok_cons ok_open (gok_cons ok4Pp (gok_cons ok_late gok_nil))) (p_prov x h1 h0)
 ·have h0' : (checkC x.c == 0) = false := by simpa using h0
  have e : C_prov.val x = .tup [.bool false, .int (checkC x.c)] := by
   show AVal.tup [.bool (provV x).1, .int (provV x).2] = _
   unfold provV; rw [h0']; rfl
  rw [e]
  refine fnt (A := A_provX) (L := []) (keep := []) (ren := []) (fz := []) fn_Proves (by kernel_rfl) (gok_cons ok_openX gok_nil) ?_
  show V_provX x; rw [vc_provX]; simp only [condP, eq_self, implies_true, and_self, true_and, and_true, true_implies, forall_const, decide_eq_true_eq, decide_eq_false_iff_not, Int.toNat_natCast, dSpan_eSpan, dInt_eInt, dMk_e, dNt_e, dPr_e, Nat.zero_add, Int.zero_sub, Nat.le_eq, Nat.succ_eq_add_one, Nat.add_one_le_iff, Bool.not_eq_true', Bool.not_eq_false', rng_length, dSpan_mk, rng_getD, cht_eta]
  simp [h1, h0]) _
end Go.Bal
