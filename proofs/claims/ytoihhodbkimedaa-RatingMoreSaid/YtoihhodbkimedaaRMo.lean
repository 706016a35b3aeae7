/- Law RatingMore: its walk. -/
import Derived.Test.YtoihhodbkimedaaRT9
import Derived.Test.YtoihhodbkimedaaRatAr
set_option linter.unusedVariables false
set_option linter.unusedSimpArgs false
namespace Go.Bal
open Go Go.Sym Go.Proofs
structure MoI where
 bs : List Int
 cs : List Int
 a : Int
def moM3 (x : MoI) : MkI := ⟨⟨x.bs, 0, 0⟩, 9⟩
def moG (x : MoI) : List Gau := mdG (moM3 x)
def moR (x : MoI) : Rtg := mdR (moM3 x)
def moA (x : MoI) : Int := pickV x.a 300
def moS0 (x : MoI) : Stm := ⟨x.cs, 0, 0⟩
def moT (x : MoI) : Int := nextV (moS0 x) 250
def moS1 (x : MoI) : Stm := nextS (moS0 x) 250
def moQ (x : MoI) : Rt := atM ⟨moR x, moT x⟩
def mnG (n : Int) : Int := minI 200000 n
def moF (x : MoI) : Int := wr ((moQ x).n.tdiv (moQ x).d)
def moS2 (x : MoI) : Stm := nextS (moS1 x) 4
def moS3 (x : MoI) : Stm := witS (moS2 x) 1 4
def moGa (x : MoI) : Gau := ⟨moT x, mxG (wr (moF x - nextV (moS1 x) 4)), mnG (wr (moF x + witV (moS2 x) 1 4))⟩
def moTo (x : MoI) : List Gau := moG x ++ [moGa x]
def widG (s : Stm) (g : Gau) : Gau := ⟨g.st, mxG (wr (g.lo - nextV s 5)), mnG (wr (g.hi + nextV (nextS s 5) 5))⟩
def widS : Nat -> Stm -> Stm
 | 0, s => s
 | n + 1, s => nextS (nextS (widS n s) 5) 5
def widL (s : Stm) (l : List Gau) (n : Nat) : List Gau := (List.range l.length).map λ i => if i < n then widG (widS i s) (gD l i) else gD l i
def moW (x : MoI) : List Gau := widL (moS3 x) (moG x) (moG x).length
def moSl (x : MoI) (t w : AVal) : List (Nat × AVal) := [(7, .d (eGaus (moG x))), (8, .bptr 2096 0), (10, .int (moA x)), (11, t), (12, w)]
def mo11 (x : MoI) : Shape := { α := One, dflt := default, T := λ _ => ⟨moSl x (.d (eGaus (moTo x))) (.own 5048 3 0 (moG x).length) ++ [(9, .bptr 3016 0)], [(2096, rtgC (moR x)), (3016, stmH (moS3 x)), (5048, .live (rowG (moG x)))]⟩, inv := λ _ => True, meas := λ _ => 0, ffz := [11048] }
def rowGn (n : Nat) (l : List Gau) : HCell := .live (.row 3 n λ i => eGau (gD l i))
structure MoK where
 k : Nat
 s : Stm
 l : List Gau
 deriving Inhabited
def mo12 (x : MoI) : Shape := { α := MoK, dflt := default, T := λ y => ⟨moSl x (.d (eGaus (moTo x))) (.own 5048 3 0 (moG x).length) ++ [(9, .bptr 3016 0), (16, .int y.k)], [(2096, rtgC (moR x)), (3016, stmH y.s), (5048, rowGn (moG x).length y.l)]⟩, inv := λ y => y.k <= (moG x).length /\ y.s = widS y.k (moS3 x) /\ y.l = widL (moS3 x) (moG x) y.k, meas := λ y => (moG x).length - y.k }
def mo15 (x : MoI) : Shape := { α := One, dflt := default, T := λ _ => ⟨moSl x (.d (eGaus (moTo x))) (.d (eGaus (moW x))), [(2096, rtgC (moR x))]⟩, inv := λ _ => True, meas := λ _ => 0, ffz := [5048] }
def xMo (x : MoI) : List AVal := [.d (eBys x.bs), .d (eBys x.cs), .int x.a]
def A_Mo (x : MoI) : Ann := { ann 244 [(n_New, C_New.spec d_New), (n_Made, C_Made.spec dMkI), (n_Pick, s_Pick), (n_copyG, C_cpG.spec dGs1), (n_Next, C_Next.spec d_Next), (n_Within, C_Within.spec d_Within), (n_At, C_At.spec dRtI), (n_Flow, C_Flow.spec dGBt), (n_sound, s_sound), (n_below, s_below), (n_Rate, C_Rate.spec dGs1), (n_awake, s_awake)] with mt := λ id => id == 10, loops := λ id => if id = 12 then some [mo12 x] else none, cut := λ id => if id = 11 then some [mo11 x] else if id = 15 then some [mo15 x] else none }
def V_Mo (x : MoI) : Prop := fnVC Try.prog (A_Mo x) F_lMore (bodyOf F_lMore) (xMo x) (heapOf []) (.bool true) [] [] []
abbrev z_Mo_0 (x : MoI) : List Int := rng x.bs.length λ (i : Nat) => gD x.bs i
abbrev z_Mo_1 (x : MoI) : Nat := (z_Mo_0 x).length
abbrev z_Mo_2 (x : MoI) (i : Nat) : Int := gD (z_Mo_0 x) i
abbrev z_Mo_3 (x : MoI) : List Int := rng (z_Mo_1 x) λ (i : Nat) => z_Mo_2 x i
abbrev z_Mo_4 (x : MoI) : Nat := (z_Mo_3 x).length
abbrev z_Mo_5 : Prop := (0 : Int) = (0 : Int)
abbrev z_Mo_6 (x : MoI) : Stm := Stm.mk (z_Mo_3 x) (0 : Int) (0 : Int)
abbrev z_Mo_7 (x : MoI) : List Int := rng x.cs.length λ (i : Nat) => gD x.cs i
abbrev z_Mo_8 (x : MoI) : Nat := (z_Mo_7 x).length
abbrev z_Mo_9 (x : MoI) (i : Nat) : Int := gD (z_Mo_7 x) i
abbrev z_Mo_10 (x : MoI) : MkI := MkI.mk (z_Mo_6 x) (9 : Int)
abbrev z_Mo_11 (x : MoI) : List Gau := mdG (z_Mo_10 x)
abbrev z_Mo_12 (x : MoI) : Nat := (z_Mo_11 x).length
abbrev z_Mo_13 (x : MoI) (i : Nat) : Gau := gD (z_Mo_11 x) i
abbrev z_Mo_14 (x : MoI) : List Gau := rng (z_Mo_12 x) λ (i : Nat) => z_Mo_13 x i
abbrev z_Mo_15 (x : MoI) : Nat := (z_Mo_14 x).length
abbrev z_Mo_16 (x : MoI) : Prop := z_Mo_15 x = z_Mo_12 x
abbrev z_Mo_17 (x : MoI) (i : Nat) : Gau := gD (z_Mo_14 x) i
abbrev z_Mo_18 (x : MoI) (i : Nat) : Int := (z_Mo_17 x i).st
abbrev z_Mo_19 (x : MoI) (i : Nat) : Int := (z_Mo_13 x i).st
abbrev z_Mo_20 (x : MoI) (i : Nat) : Int := (z_Mo_17 x i).lo
abbrev z_Mo_21 (x : MoI) (i : Nat) : Int := (z_Mo_13 x i).lo
abbrev z_Mo_22 (x : MoI) (i : Nat) : Int := (z_Mo_17 x i).hi
abbrev z_Mo_23 (x : MoI) (i : Nat) : Int := (z_Mo_13 x i).hi
abbrev z_Mo_24 (x : MoI) : Prop := ∀ (i : Nat), i < z_Mo_15 x -> z_Mo_18 x i = z_Mo_19 x i /\ z_Mo_20 x i = z_Mo_21 x i /\ z_Mo_22 x i = z_Mo_23 x i
abbrev z_Mo_25 (x : MoI) : Prop := (0 : Nat) < z_Mo_15 x
abbrev z_Mo_26 (x : MoI) : Prop := z_Mo_25 x /\ z_Mo_15 x < (1073741824 : Nat)
abbrev z_Mo_27 (x : MoI) : List Int := rng (z_Mo_8 x) λ (i : Nat) => z_Mo_9 x i
abbrev z_Mo_28 (x : MoI) : Nat := (z_Mo_27 x).length
abbrev z_Mo_29 (x : MoI) : Rtg := mdR (z_Mo_10 x)
abbrev z_Mo_30 (x : MoI) : List Int := (z_Mo_29 x).b
abbrev z_Mo_31 (x : MoI) : Nat := (z_Mo_30 x).length
abbrev z_Mo_32 (x : MoI) (i : Nat) : Int := gD (z_Mo_30 x) i
abbrev z_Mo_33 (x : MoI) : List Int := rng (z_Mo_31 x) λ (i : Nat) => z_Mo_32 x i
abbrev z_Mo_34 (x : MoI) : Nat := (z_Mo_33 x).length
abbrev z_Mo_35 (x : MoI) : List Ln := (z_Mo_29 x).l
abbrev z_Mo_36 (x : MoI) : Nat := (z_Mo_35 x).length
abbrev z_Mo_37 (x : MoI) (i : Nat) : Ln := gD (z_Mo_35 x) i
abbrev z_Mo_38 (x : MoI) : List Ln := rng (z_Mo_36 x) λ (i : Nat) => z_Mo_37 x i
abbrev z_Mo_39 (x : MoI) : Nat := (z_Mo_38 x).length
abbrev z_Mo_40 (x : MoI) (i : Nat) : Ln := gD (z_Mo_38 x) i
abbrev z_Mo_41 (x : MoI) (i : Nat) : Int := (z_Mo_37 x i).a0
abbrev z_Mo_42 (x : MoI) (i : Nat) : Int := (z_Mo_37 x i).a1
abbrev z_Mo_43 (x : MoI) (i : Nat) : Int := (z_Mo_37 x i).b0
abbrev z_Mo_44 (x : MoI) (i : Nat) : Int := (z_Mo_37 x i).b1
abbrev z_Mo_45 (x : MoI) : Stm := Stm.mk (z_Mo_27 x) (0 : Int) (0 : Int)
abbrev z_Mo_46 (x : MoI) : Int := nextV (z_Mo_45 x) (250 : Int)
abbrev z_Mo_47 (x : MoI) : RtI := RtI.mk (Rtg.mk (z_Mo_33 x) (z_Mo_38 x)) (z_Mo_46 x)
abbrev z_Mo_48 (x : MoI) : Rt := atM (z_Mo_47 x)
abbrev z_Mo_49 (x : MoI) : Int := (z_Mo_48 x).d
abbrev z_Mo_50 (x : MoI) : Prop := z_Mo_49 x ≠ (0 : Int)
abbrev z_Mo_51 : Prop := (4 : Int) = Int.ofNat (4 : Nat)
abbrev z_Mo_52 (x : MoI) : Stm := nextS (z_Mo_45 x) (250 : Int)
abbrev z_Mo_53 (x : MoI) : List Int := (z_Mo_52 x).bs
abbrev z_Mo_54 (x : MoI) : Nat := (z_Mo_53 x).length
abbrev z_Mo_55 (x : MoI) (i : Nat) : Int := gD (z_Mo_53 x) i
abbrev z_Mo_56 (x : MoI) : List Int := rng (z_Mo_54 x) λ (i : Nat) => z_Mo_55 x i
abbrev z_Mo_57 (x : MoI) : Nat := (z_Mo_56 x).length
abbrev z_Mo_58 (x : MoI) : Int := (z_Mo_52 x).used
abbrev z_Mo_59 (x : MoI) : Int := (z_Mo_52 x).mix
abbrev z_Mo_60 (x : MoI) : Stm := Stm.mk (z_Mo_56 x) (z_Mo_58 x) (z_Mo_59 x)
abbrev z_Mo_61 (x : MoI) : Stm := nextS (z_Mo_60 x) (4 : Int)
abbrev z_Mo_62 (x : MoI) : List Int := (z_Mo_61 x).bs
abbrev z_Mo_63 (x : MoI) : Nat := (z_Mo_62 x).length
abbrev z_Mo_64 (x : MoI) (i : Nat) : Int := gD (z_Mo_62 x) i
abbrev z_Mo_65 (x : MoI) : List Int := rng (z_Mo_63 x) λ (i : Nat) => z_Mo_64 x i
abbrev z_Mo_66 (x : MoI) : Nat := (z_Mo_65 x).length
abbrev z_Mo_67 (x : MoI) : Int := (z_Mo_61 x).used
abbrev z_Mo_68 (x : MoI) : Int := (z_Mo_61 x).mix
abbrev z_Mo_69 : Prop := (3 : Nat) = (3 : Nat)
abbrev z_Mo_70 : Prop := (0 : Nat) < (1 : Nat)
abbrev z_Mo_71 (x : MoI) : Nat := z_Mo_15 x + (1 : Nat)
abbrev z_Mo_72 (j : Nat) : Nat := (0 : Nat) + j
abbrev z_Mo_73 (j : Nat) (x : MoI) : Bool := decide (z_Mo_72 j < z_Mo_15 x)
abbrev z_Mo_74 (x : MoI) (j : Nat) : Gau := gD (z_Mo_14 x) (z_Mo_72 j)
abbrev z_Mo_75 (x : MoI) : Int := IntKind.i64.wrap ((z_Mo_48 x).n.tdiv (z_Mo_49 x))
abbrev z_Mo_76 (x : MoI) : Stm := Stm.mk (z_Mo_65 x) (z_Mo_67 x) (z_Mo_68 x)
abbrev z_Mo_77 : Prop := (0 : Nat) = (0 : Nat)
abbrev z_Mo_78 (x : MoI) : Prop := (moG x).length = z_Mo_15 x
abbrev z_Mo_79 (x : MoI) : Stm := witS (z_Mo_76 x) (1 : Int) (4 : Int)
abbrev z_Mo_80 (x : MoI) : List Int := (z_Mo_79 x).bs
abbrev z_Mo_81 (x : MoI) : Prop := (moG x).length = (moG x).length
abbrev z_Mo_82 (x : MoI) : Prop := ∀ (i : Nat), i < (moG x).length -> (gD (moG x) i).st = (gD (moG x) i).st /\ (gD (moG x) i).lo = (gD (moG x) i).lo /\ (gD (moG x) i).hi = (gD (moG x) i).hi
abbrev z_Mo_83 (x : MoI) : Prop := (moTo x).length = (moTo x).length
abbrev z_Mo_84 (x : MoI) : Prop := ∀ (i : Nat), i < (moTo x).length -> (gD (moTo x) i).st = (gD (moTo x) i).st /\ (gD (moTo x) i).lo = (gD (moTo x) i).lo /\ (gD (moTo x) i).hi = (gD (moTo x) i).hi
abbrev z_Mo_85 (x : MoI) : Prop := (moR x).b.length = (moR x).b.length
abbrev z_Mo_86 (x : MoI) : Prop := ∀ (i : Nat), i < (moR x).b.length -> gD (moR x).b i = gD (moR x).b i
abbrev z_Mo_87 (x : MoI) : Prop := (moR x).l.length = (moR x).l.length
abbrev z_Mo_88 (x : MoI) : Prop := ∀ (i : Nat), i < (moR x).l.length -> (gD (moR x).l i).a0 = (gD (moR x).l i).a0 /\ (gD (moR x).l i).a1 = (gD (moR x).l i).a1 /\ (gD (moR x).l i).b0 = (gD (moR x).l i).b0 /\ (gD (moR x).l
 i).b1 = (gD (moR x).l i).b1
abbrev z_Mo_89 (a : MoK) (x : MoI) : Prop := a.k <= (moG x).length /\ a.s = widS a.k (moS3 x) /\ a.l = widL (moS3 x) (moG x) a.k
abbrev z_Mo_90 (a : MoK) (x : MoI) : Prop := (↑a.k : Int) < (↑(moG x).length : Int)
abbrev z_Mo_91 (a : MoK) (x : MoI) : Prop := (0 : Int) <= (↑a.k : Int) /\ z_Mo_90 a x
abbrev z_Mo_92 (a : MoK) : Nat := (0 : Nat) + a.k
abbrev z_Mo_93 (a : MoK) (x : MoI) : Prop := z_Mo_92 a < (moG x).length
abbrev z_Mo_94 : Prop := (5 : Int) = Int.ofNat (5 : Nat)
abbrev z_Mo_95 (a : MoK) : List Int := rng a.s.bs.length λ (i : Nat) => gD a.s.bs i
abbrev z_Mo_96 (a : MoK) : Nat := (z_Mo_95 a).length
abbrev z_Mo_97 (a : MoK) : Stm := Stm.mk (z_Mo_95 a) a.s.used a.s.mix
abbrev z_Mo_98 (a : MoK) : Stm := nextS (z_Mo_97 a) (5 : Int)
abbrev z_Mo_99 (a : MoK) : List Int := (z_Mo_98 a).bs
abbrev z_Mo_100 (a : MoK) : Nat := (z_Mo_99 a).length
abbrev z_Mo_101 (a : MoK) (i : Nat) : Int := gD (z_Mo_99 a) i
abbrev z_Mo_102 (a : MoK) : List Int := rng (z_Mo_100 a) λ (i : Nat) => z_Mo_101 a i
abbrev z_Mo_103 (a : MoK) : Nat := (z_Mo_102 a).length
abbrev z_Mo_104 (a : MoK) : Int := (z_Mo_98 a).used
abbrev z_Mo_105 (a : MoK) : Int := (z_Mo_98 a).mix
abbrev z_Mo_106 (a : MoK) : Stm := Stm.mk (z_Mo_102 a) (z_Mo_104 a) (z_Mo_105 a)
abbrev z_Mo_107 (a : MoK) : Stm := nextS (z_Mo_106 a) (5 : Int)
abbrev z_Mo_108 (a : MoK) : List Int := (z_Mo_107 a).bs
abbrev z_Mo_109 (i : Nat) (a : MoK) : Bool := decide (i = z_Mo_92 a)
abbrev z_Mo_110 (a : MoK) : Gau := gD a.l (z_Mo_92 a)
abbrev z_Mo_111 (x : MoI) (a : MoK) : Nat := (moG x).length - a.k
abbrev z_Mo_112 (a : MoK) (j : Nat) : Gau := gD a.l (z_Mo_72 j)
abbrev z_Mo_113 (x : MoI) : List Gau := rng (moG x).length λ (i : Nat) => gD (moG x) i
abbrev z_Mo_114 (x : MoI) : Nat := (z_Mo_113 x).length
abbrev z_Mo_115 (x : MoI) : Prop := z_Mo_114 x = (moG x).length
abbrev z_Mo_116 (x : MoI) (i : Nat) : Gau := gD (z_Mo_113 x) i
abbrev z_Mo_117 (x : MoI) : Prop := ∀ (i : Nat), i < z_Mo_114 x -> (z_Mo_116 x i).st = (gD (moG x) i).st /\ (z_Mo_116 x i).lo = (gD (moG x) i).lo /\ (z_Mo_116 x i).hi = (gD (moG x) i).hi
abbrev z_Mo_118 (x : MoI) : List Int := rng (moR x).b.length λ (i : Nat) => gD (moR x).b i
abbrev z_Mo_119 (x : MoI) : Nat := (z_Mo_118 x).length
abbrev z_Mo_120 (x : MoI) : Prop := z_Mo_119 x = (moR x).b.length
abbrev z_Mo_121 (x : MoI) : Prop := ∀ (i : Nat), i < z_Mo_119 x -> gD (z_Mo_118 x) i = gD (moR x).b i
abbrev z_Mo_122 (x : MoI) : Prop := z_Mo_119 x < (4611686018427387904 : Nat)
abbrev z_Mo_123 (x : MoI) : List Gau := rng (moTo x).length λ (i : Nat) => gD (moTo x) i
abbrev z_Mo_124 (x : MoI) : Nat := (z_Mo_123 x).length
abbrev z_Mo_125 (x : MoI) : Prop := z_Mo_124 x = (moTo x).length
abbrev z_Mo_126 (x : MoI) (i : Nat) : Gau := gD (z_Mo_123 x) i
abbrev z_Mo_127 (x : MoI) : Prop := ∀ (i : Nat), i < z_Mo_124 x -> (z_Mo_126 x i).st = (gD (moTo x) i).st /\ (z_Mo_126 x i).lo = (gD (moTo x) i).lo /\ (z_Mo_126 x i).hi = (gD (moTo x) i).hi
abbrev z_Mo_128 (x : MoI) : List Gau := rng (moW x).length λ (i : Nat) => gD (moW x) i
abbrev z_Mo_129 (x : MoI) : Nat := (z_Mo_128 x).length
abbrev z_Mo_130 (x : MoI) : Prop := z_Mo_129 x = (moW x).length
abbrev z_Mo_131 (x : MoI) (i : Nat) : Gau := gD (z_Mo_128 x) i
abbrev z_Mo_132 (x : MoI) : Prop := ∀ (i : Nat), i < z_Mo_129 x -> (z_Mo_131 x i).st = (gD (moW x) i).st /\ (z_Mo_131 x i).lo = (gD (moW x) i).lo /\ (z_Mo_131 x i).hi = (gD (moW x) i).hi
abbrev z_Mo_133 (x : MoI) : GBt := GBt.mk (z_Mo_113 x) (z_Mo_118 x) (moA x)
abbrev z_Mo_134 (x : MoI) : GBt := GBt.mk (z_Mo_123 x) (z_Mo_118 x) (moA x)
abbrev z_Mo_135 (x : MoI) : Int := flowE (z_Mo_134 x)
abbrev z_Mo_136 (x : MoI) : GBt := GBt.mk (z_Mo_128 x) (z_Mo_118 x) (moA x)
abbrev z_Mo_137 (x : MoI) : Bnd := flowB (z_Mo_133 x)
abbrev z_Mo_138 (x : MoI) : Rt := (z_Mo_137 x).lo
abbrev z_Mo_139 (x : MoI) : Rt := (z_Mo_137 x).hi
abbrev z_Mo_140 (x : MoI) : Bnd := flowB (z_Mo_136 x)
abbrev z_Mo_141 (x : MoI) : Rt := (z_Mo_140 x).lo
abbrev z_Mo_142 (x : MoI) : Rt := (z_Mo_140 x).hi
abbrev z_Mo_143 (x : MoI) : Bnd := flowB (z_Mo_134 x)
abbrev z_Mo_144 (x : MoI) : Rt := (z_Mo_143 x).lo
abbrev z_Mo_145 (x : MoI) : Rt := (z_Mo_143 x).hi
abbrev z_Mo_146 (x : MoI) : FR := fewM (z_Mo_113 x)
abbrev z_Mo_147 (x : MoI) : FR := fewM (z_Mo_123 x)
abbrev z_Mo_148 (x : MoI) : Int := (z_Mo_147 x).e
abbrev z_Mo_149 (x : MoI) : Nat := (z_Mo_146 x).r.l.length
abbrev z_Mo_150 (x : MoI) : FR := fewM (z_Mo_128 x)
theorem vc_Mo (x : MoI) : (V_Mo x) = ((z_Mo_1 x = x.bs.length /\ (∀ (i : Nat), i < z_Mo_1 x -> z_Mo_2 x i = gD x.bs i) /\ (9 : Int) = Int.ofNat (9 : Nat) /\ z_Mo_4 x = z_Mo_1 x /\ (∀ (i : Nat), i < z_Mo_4 x -> gD (z_Mo_3 x) i
 = z_Mo_2 x i) /\ z_Mo_5 /\ z_Mo_5 /\ (StmB (0 : Int) (z_Mo_6 x) /\ (1 : Int) <= (9 : Int) /\ (9 : Int) <= (100 : Int)) /\ True) /\ (z_Mo_8 x = x.cs.length /\ ∀ (i : Nat), i < z_Mo_8 x -> z_Mo_9 x i = gD x.cs i) /\ (z_Mo_16 x /\
 z_Mo_24 x /\ z_Mo_26 x /\ z_Mo_16 x /\ z_Mo_24 x /\ z_Mo_26 x) /\ ((250 : Int) = Int.ofNat (250 : Nat) /\ z_Mo_28 x = z_Mo_8 x /\ (∀ (i : Nat), i < z_Mo_28 x -> gD (z_Mo_27 x) i = z_Mo_9 x i) /\ z_Mo_5 /\ z_Mo_5 /\ ((0 : Int) - (0
 : Int)).NonNeg) /\ (z_Mo_34 x = z_Mo_31 x /\ (∀ (i : Nat), i < z_Mo_34 x -> gD (z_Mo_33 x) i = z_Mo_32 x i) /\ z_Mo_39 x = z_Mo_36 x /\ (∀ (i : Nat), i < z_Mo_39 x -> (z_Mo_40 x i).a0 = z_Mo_41 x i /\ (z_Mo_40 x i).a1 = z_Mo_42
 x i /\ (z_Mo_40 x i).b0 = z_Mo_43 x i /\ (z_Mo_40 x i).b1 = z_Mo_44 x i) /\ z_Mo_46 x = z_Mo_46 x /\ z_Mo_34 x < (1073741824 : Nat) /\ z_Mo_39 x < (1073741824 : Nat)) /\ bif bif atE (z_Mo_47 x) != (0 : Int) then true else
 decide (z_Mo_49 x < (1 : Int)) then true = false else (z_Mo_50 x /\ z_Mo_51 /\ z_Mo_57 x = z_Mo_54 x /\ (∀ (i : Nat), i < z_Mo_57 x -> gD (z_Mo_56 x) i = z_Mo_55 x i) /\ z_Mo_58 x = z_Mo_58 x /\ z_Mo_59 x = z_Mo_59 x /\ (0 :
 Int) <= z_Mo_58 x /\ z_Mo_50 x /\ (1 : Int) = Int.ofNat (1 : Nat) /\ z_Mo_51 /\ z_Mo_66 x = z_Mo_63 x /\ (∀ (i : Nat), i < z_Mo_66 x -> gD (z_Mo_65 x) i = z_Mo_64 x i) /\ z_Mo_67 x = z_Mo_67 x /\ z_Mo_68 x = z_Mo_68 x /\ (z_Mo_67
 x - (0 : Int)).NonNeg) /\ (((z_Mo_15 x = z_Mo_15 x /\ (z_Mo_25 x -> z_Mo_69)) /\ ((1 : Nat) <= (1 : Nat) /\ (z_Mo_70 -> z_Mo_69)) /\ (false = true -> z_Mo_70) /\ z_Mo_71 x <= (9223372036854775807 : Nat) /\ z_Mo_71 x * (24 : Nat) <=
 (140737488355328 : Nat)) /\ ∃ (a : One), ((moG x).length = z_Mo_12 x /\ (∀ (i : Nat), i < (moG x).length -> (gD (moG x) i).st = z_Mo_19 x i /\ (gD (moG x) i).lo = z_Mo_21 x i /\ (gD (moG x) i).hi = z_Mo_23 x i) /\ moA x =
 pickV x.a (300 : Int) /\ (moTo x).length = z_Mo_71 x /\ (0 : Nat) + z_Mo_71 x <= z_Mo_71 x /\ (∀ (j : Nat), j < (moTo x).length -> ((gD (moTo x) j).st = bif z_Mo_73 j x then (z_Mo_74 x j).st else z_Mo_46 x) /\ ((gD (moTo x)
 j).lo = bif z_Mo_73 j x then (z_Mo_74 x j).lo else maxI (0 : Int) (IntKind.i64.wrap (z_Mo_75 x - nextV (z_Mo_60 x) (4 : Int)))) /\ (gD (moTo x) j).hi = bif z_Mo_73 j x then (z_Mo_74 x j).hi else minI (200000 : Int)
 (IntKind.i64.wrap (z_Mo_75 x + witV (z_Mo_76 x) (1 : Int) (4 : Int)))) /\ z_Mo_77 /\ z_Mo_78 x /\ (moR x).b.length = z_Mo_31 x /\ (∀ (i : Nat), i < (moR x).b.length -> gD (moR x).b i = z_Mo_32 x i) /\ (moR x).l.length =
 z_Mo_36 x /\ (∀ (i : Nat), i < (moR x).l.length -> (gD (moR x).l i).a0 = z_Mo_41 x i /\ (gD (moR x).l i).a1 = z_Mo_42 x i /\ (gD (moR x).l i).b0 = z_Mo_43 x i /\ (gD (moR x).l i).b1 = z_Mo_44 x i) /\ (moS3 x).bs.length =
 (z_Mo_80 x).length /\ (∀ (i : Nat), i < (moS3 x).bs.length -> gD (moS3 x).bs i = gD (z_Mo_80 x) i) /\ (moS3 x).used = (z_Mo_79 x).used /\ (moS3 x).mix = (z_Mo_79 x).mix /\ z_Mo_78 x /\ ∀ (i : Nat), i < (moG x).length -> (gD
 (moG x) i).st = z_Mo_18 x i /\ (gD (moG x) i).lo = z_Mo_20 x i /\ (gD (moG x) i).hi = z_Mo_22 x i) /\ True) /\ ∀ (a : One), True -> ((∃ (a : MoK), (z_Mo_81 x /\ z_Mo_82 x /\ moA x = moA x /\ z_Mo_83 x /\ z_Mo_84 x /\ z_Mo_77 /\
 z_Mo_81 x /\ (↑a.k : Int) = (0 : Int) /\ z_Mo_85 x /\ z_Mo_86 x /\ z_Mo_87 x /\ z_Mo_88 x /\ a.s.bs.length = (moS3 x).bs.length /\ (∀ (i : Nat), i < a.s.bs.length -> gD a.s.bs i = gD (moS3 x).bs i) /\ a.s.used = (moS3 x).used /\
 a.s.mix = (moS3 x).mix /\ z_Mo_81 x /\ ∀ (i : Nat), i < (moG x).length -> (gD a.l i).st = (gD (moG x) i).st /\ (gD a.l i).lo = (gD (moG x) i).lo /\ (gD a.l i).hi = (gD (moG x) i).hi) /\ z_Mo_89 a x) /\ ∀ (a : MoK), z_Mo_89 a x
 -> bif decide (z_Mo_90 a x) then (z_Mo_91 a x /\ z_Mo_93 a x /\ z_Mo_94 /\ z_Mo_96 a = a.s.bs.length /\ (∀ (i : Nat), i < z_Mo_96 a -> gD (z_Mo_95 a) i = gD a.s.bs i) /\ a.s.used = a.s.used /\ a.s.mix = a.s.mix /\ (0 : Int) <=
 a.s.used /\ z_Mo_91 a x /\ z_Mo_93 a x /\ z_Mo_94 /\ z_Mo_103 a = z_Mo_100 a /\ (∀ (i : Nat), i < z_Mo_103 a -> gD (z_Mo_102 a) i = z_Mo_101 a i) /\ z_Mo_104 a = z_Mo_104 a /\ z_Mo_105 a = z_Mo_105 a /\ (0 : Int) <= z_Mo_104 a /\
 z_Mo_91 a x /\ (z_Mo_92 a).succ.le (moG x).length) /\ ∃ (a_2 : MoK), (z_Mo_81 x /\ z_Mo_82 x /\ moA x = moA x /\ z_Mo_83 x /\ z_Mo_84 x /\ z_Mo_77 /\ z_Mo_81 x /\ (↑a_2.k : Int) = IntKind.i64.wrap ((↑a.k : Int) + (1 : Int)) /\
 z_Mo_85 x /\ z_Mo_86 x /\ z_Mo_87 x /\ z_Mo_88 x /\ a_2.s.bs.length = (z_Mo_108 a).length /\ (∀ (i : Nat), i < a_2.s.bs.length -> gD a_2.s.bs i = gD (z_Mo_108 a) i) /\ a_2.s.used = (z_Mo_107 a).used /\ a_2.s.mix = (z_Mo_107
 a).mix /\ z_Mo_81 x /\ ∀ (i : Nat), i < (moG x).length -> ((gD a_2.l i).st = bif z_Mo_109 i a then (z_Mo_110 a).st else (gD a.l i).st) /\ ((gD a_2.l i).lo = bif z_Mo_109 i a then maxI (0 : Int) (IntKind.i64.wrap ((z_Mo_110
 a).lo - nextV (z_Mo_97 a) (5 : Int))) else (gD a.l i).lo) /\ (gD a_2.l i).hi = bif z_Mo_109 i a then minI (200000 : Int) (IntKind.i64.wrap ((z_Mo_110 a).hi + nextV (z_Mo_106 a) (5 : Int))) else (gD a.l i).hi) /\ z_Mo_89
 a_2 x /\ z_Mo_111 x a_2 < z_Mo_111 x a else ∃ (a_2 : One), (z_Mo_81 x /\ z_Mo_82 x /\ moA x = moA x /\ z_Mo_83 x /\ z_Mo_84 x /\ (moW x).length = (moG x).length /\ (0 : Nat) + (moG x).length <= (moG x).length /\ (∀ (j : Nat), j <
 (moW x).length -> (gD (moW x) j).st = (z_Mo_112 a j).st /\ (gD (moW x) j).lo = (z_Mo_112 a j).lo /\ (gD (moW x) j).hi = (z_Mo_112 a j).hi) /\ z_Mo_85 x /\ z_Mo_86 x /\ z_Mo_87 x /\ z_Mo_88 x) /\ True) /\ ∀ (a : One), True ->
 (z_Mo_115 x /\ z_Mo_117 x /\ z_Mo_120 x /\ z_Mo_121 x /\ moA x = moA x /\ (z_Mo_114 x < (4611686018427387904 : Nat) /\ z_Mo_122 x) /\ True) /\ (z_Mo_125 x /\ z_Mo_127 x /\ z_Mo_120 x /\ z_Mo_121 x /\ moA x = moA x /\ (z_Mo_124 x <
 (4611686018427387904 : Nat) /\ z_Mo_122 x) /\ True) /\ (z_Mo_130 x /\ z_Mo_132 x /\ z_Mo_120 x /\ z_Mo_121 x /\ moA x = moA x /\ (z_Mo_129 x < (4611686018427387904 : Nat) /\ z_Mo_122 x) /\ True) /\ bif bif bif bif bif flowE
 (z_Mo_133 x) != (0 : Int) then true else bif z_Mo_135 x != (0 : Int) then z_Mo_135 x != (6 : Int) else false then true else flowE (z_Mo_136 x) != (0 : Int) then true else !sndM (Bnd.mk (z_Mo_138 x) (z_Mo_139 x)) then
 true else !sndM (Bnd.mk (z_Mo_141 x) (z_Mo_142 x)) then true = false else bif bif bif bif z_Mo_135 x == (0 : Int) then bif bif !sndM (Bnd.mk (z_Mo_144 x) (z_Mo_145 x)) then true else belM (z_Mo_144 x) (z_Mo_138 x) then
 true else belM (z_Mo_139 x) (z_Mo_145 x) else false then true else belM (z_Mo_138 x) (z_Mo_141 x) then true else belM (z_Mo_142 x) (z_Mo_139 x) then true = false else (z_Mo_115 x /\ z_Mo_117 x /\ z_Mo_114 x < (20 : Nat) /\
 True) /\ (z_Mo_125 x /\ z_Mo_127 x /\ z_Mo_124 x < (20 : Nat) /\ True) /\ (z_Mo_130 x /\ z_Mo_132 x /\ z_Mo_129 x < (20 : Nat) /\ True) /\ true = bif bif bif bif (z_Mo_146 x).e == (0 : Int) then bif bif z_Mo_148 x == (0 : Int)
 then decide ((↑(z_Mo_147 x).r.l.length : Int) >= (↑(z_Mo_149 x) : Int)) else false then true else z_Mo_148 x == (6 : Int) else false then (z_Mo_150 x).e == (0 : Int) else false then decide ((↑(z_Mo_150 x).r.l.length :
 Int) <= (↑(z_Mo_149 x) : Int)) else false then true else false) := by kernel_rfl
theorem bnd_eta (b : Bnd) : Bnd.mk b.lo b.hi = b := rfl
theorem rtg_eta (r : Rtg) : Rtg.mk r.b r.l = r := rfl
theorem preM_of {bs : List Int} (h : okBy bs) {m : Int} (hm : 1 <= m /\ m <= 100) : preM ⟨⟨bs, 0, 0⟩, m⟩ := ⟨⟨⟨Int.le_refl _, Int.le_refl _⟩, ⟨Int.le_refl _, by show (0 : Int) < 251; omega⟩, h⟩, hm⟩
theorem stm_of {bs : List Int} (h : okBy bs) : StmB 0 ⟨bs, 0, 0⟩ := ⟨⟨Int.le_refl _, Int.le_refl _⟩, ⟨Int.le_refl _, by show (0 : Int) < 251; omega⟩, h⟩
theorem widS_ok {K : Int} {s : Stm} (h : StmB K s) (hK : K <= 1000000) : ∀ n : Nat, n <= 1000 -> StmB (K + 2 * n) (widS n s)
 | 0, _ => h.mono (by omega)
 | n + 1, hn => by
  have h1 := widS_ok h hK n (by omega)
  have h2 := h1.next (by omega) 5
  have h3 := h2.next (by omega) 5
  exact h3.mono (by omega)
theorem widL_gD {s : Stm} {l : List Gau} {n i : Nat} (h : i < l.length) : gD (widL s l n) i = if i < n then widG (widS i s) (gD l i) else gD l i := gD_range (λ i => if i < n then widG (widS i s) (gD l i) else gD l i) h
theorem widL_len (s : Stm) (l : List Gau) (n : Nat) : (widL s l n).length = l.length := by simp [widL]
theorem mn_in {n : Int} : mnG n <= 200000 /\ mnG n <= n /\ (mnG n = 200000 ∨ mnG n = n) := by unfold mnG minI; split <;> omega
theorem mx_in {n : Int} : 0 <= mxG n /\ n <= mxG n /\ (mxG n = 0 ∨ mxG n = n) := by unfold mxG maxI; split <;> omega
theorem widG_ok {K : Int} {s : Stm} (h : StmB K s) (hK : K <= 1000000) {g : Gau} (hg : okG g) : okG (widG s g) /\ (widG s g).st = g.st /\ (widG s g).lo <= g.lo /\ g.hi <= (widG s g).hi := by
 obtain ⟨g1, g2, g3, g4, g5⟩ := hg
 have v1 := nextV_in h (by omega) 5
 have v2 := nextV_in (h.next (by omega) 5) (by omega) 5
 have b1 := v1.2 (by omega)
 have b2 := v2.2 (by omega)
 have e1 : wr (g.lo - nextV s 5) = g.lo - nextV s 5 := w64 (by omega) (by omega)
 have e2 : wr (g.hi + nextV (nextS s 5) 5) = g.hi + nextV (nextS s 5) 5 := w64 (by omega) (by omega)
 have m1 := mx_in (n := g.lo - nextV s 5)
 have m2 := mn_in (n := g.hi + nextV (nextS s 5) 5)
 have l1 : (widG s g).lo = mxG (g.lo - nextV s 5) := by show mxG (wr _) = _; rw [e1]
 have l2 : (widG s g).hi = mnG (g.hi + nextV (nextS s 5) 5) := by show mnG (wr _) = _; rw [e2]
 have l3 : (widG s g).st = g.st := rfl
 unfold okG
 rw [l1, l2, l3]
 omega
structure MoF (x : MoI) : Prop where
 thru : Thru (moG x) (moR x).b
 rt : RtOk (moG x) (moR x)
 few : (moG x).length <= 9
 at_ : 0 <= moA x /\ moA x <= 2000
 q : atE ⟨moR x, moT x⟩ = 0 /\ 1 <= (moQ x).d
 stm : StmB 3 (moS3 x)
 s1 : 0 <= (moS0 x).used /\ 0 <= (moS1 x).used /\ 0 <= (moS2 x).used
 wid : Wid (moG x) (moW x)
 wok : ∀ g ∈ moW x, okG g
 tok : ∀ g ∈ moTo x, okG g
theorem ga_num {F r s T : Int} (hF : 0 <= F /\ F <= 200000) (hr : 0 <= r /\ r < 4) (hs : 1 <= s /\ s <= 4) (hT : 0 <= T /\ T <= 2000) : okG ⟨T, mxG (wr (wr F - r)), mnG (wr (wr F + s))⟩ := by
 have e0 : wr F = F := w64 (by omega) (by omega)
 rw [e0]
 have e1 : wr (F - r) = F - r := w64 (by omega) (by omega)
 have e2 : wr (F + s) = F + s := w64 (by omega) (by omega)
 rw [e1, e2]
 have m1 := mx_in (n := F - r)
 have m2 := mn_in (n := F + s)
 generalize mxG (F - r) = A at *
 generalize mnG (F + s) = B at *
 show 0 <= T /\ T <= 2000 /\ 0 <= A /\ A <= B /\ B <= 200000
 omega
theorem tdiv_in {r : Rt} (h : okR r) : 0 <= r.n.tdiv r.d /\ r.n.tdiv r.d <= 200000 := by
 obtain ⟨⟨a2, a3⟩, a4, a5⟩ := h
 rw [Int.tdiv_eq_ediv_of_nonneg a4]
 exact ⟨Int.ediv_nonneg a4 (by omega), Int.ediv_le_of_le_mul a2 a5⟩
theorem ga_ok {x : MoI} (s1 : StmB 1 (moS1 x)) (s2 : StmB 2 (moS2 x)) (ht : 0 <= moT x /\ moT x <= 2000) (hq : okR (moQ x)) : okG (moGa x) :=
 ga_num (tdiv_in hq) ⟨(nextV_in s1 (by decide) 4).1, (nextV_in s1 (by decide) 4).2 (by decide)⟩ (witV_in s2 (by decide) (by decide) (by decide) (by decide)) ht
theorem mo_facts (x : MoI) (hb : okBy x.bs) (hc : okBy x.cs) : MoF x /\ preM (moM3 x) := by
 have hpre : preM (moM3 x) := preM_of hb (by omega)
 obtain ⟨hF, hlen⟩ := made_fits hpre
 have hlen : (moG x).length <= 9 := hlen
 have hR : RtOk (moG x) (moR x) := hF.rtOk (by show (moG x).length <= 24; omega)
 have hA := pick_in x.a (n := 300) (by omega)
 have s0 : StmB 0 (moS0 x) := stm_of hc
 have s1 : StmB 1 (moS1 x) := s0.next (by omega) 250
 have s2 : StmB 2 (moS2 x) := s1.next (by omega) 4
 have s3 : StmB 3 (moS3 x) := wit_next s2 (by omega) 1 4
 have vT := nextV_in s0 (by omega) 250
 have vT2 := vT.2 (by omega)
 have tT : 0 <= moT x /\ moT x <= 2000 := by unfold moT; omega
 obtain ⟨a1, hoq, _⟩ := hR.at tT
 have hoq : okR (moQ x) := hoq
 have hw : ∀ i, i < (moG x).length -> gD (moW x) i = widG (widS i (moS3 x)) (gD (moG x) i) := λ i hi => by
  unfold moW; rw [widL_gD hi, if_pos hi]
 have hok : ∀ g ∈ moG x, okG g := hF.ok
 have hW : ∀ i, i < (moG x).length -> okG (gD (moW x) i) /\ (gD (moW x) i).st = (gD (moG x) i).st /\ (gD (moW x) i).lo <= (gD (moG x) i).lo /\ (gD (moG x) i).hi <= (gD (moW x) i).hi := λ i hi => by
  rw [hw i hi]
  exact widG_ok (widS_ok s3 (by omega) i (by omega)) (by omega) (hok _ (gD_mem hi))
 have lw : (moW x).length = (moG x).length := widL_len _ _ _
 refine ⟨⟨hR.thru, hR, hlen, by unfold moA; omega, ⟨a1, hoq.1.1⟩, s3, ⟨s0.used.1, s1.used.1, s2.used.1⟩, ⟨lw, λ i hi => (hW i hi).2⟩, λ g hg => ?_, λ g hg => ?_⟩, hpre⟩
 ·obtain ⟨i, hi, rfl⟩ := mem_gD hg
  exact (hW i (by rw [<- lw]; exact hi)).1
 ·rcases List.mem_append.1 hg with hg | hg
  ·exact hok g hg
  ·rw [List.mem_singleton.1 hg]
   exact ga_ok s1 s2 tT hoq
set_option maxHeartbeats 2000000 in
theorem p_Mo (x : MoI) (hb : okBy x.bs) (hc : okBy x.cs) : V_Mo x := by
 rw [vc_Mo]; delta z_Mo_0 z_Mo_1 z_Mo_2 z_Mo_3 z_Mo_4 z_Mo_5 z_Mo_6 z_Mo_7 z_Mo_8 z_Mo_9 z_Mo_10 z_Mo_11 z_Mo_12 z_Mo_13 z_Mo_14 z_Mo_15 z_Mo_16 z_Mo_17 z_Mo_18 z_Mo_19 z_Mo_20 z_Mo_21 z_Mo_22 z_Mo_23 z_Mo_24 z_Mo_25 z_Mo_26 z_Mo_27 z_Mo_28 z_Mo_29 z_Mo_30 z_Mo_31 z_Mo_32 z_Mo_33 z_Mo_34 z_Mo_35 z_Mo_36 z_Mo_37 z_Mo_38 z_Mo_39 z_Mo_40 z_Mo_41 z_Mo_42 z_Mo_43 z_Mo_44 z_Mo_45 z_Mo_46 z_Mo_47 z_Mo_48 z_Mo_49 z_Mo_50 z_Mo_51 z_Mo_52 z_Mo_53 z_Mo_54 z_Mo_55 z_Mo_56 z_Mo_57 z_Mo_58 z_Mo_59 z_Mo_60 z_Mo_61 z_Mo_62 z_Mo_63 z_Mo_64 z_Mo_65 z_Mo_66 z_Mo_67 z_Mo_68 z_Mo_69 z_Mo_70 z_Mo_71 z_Mo_72 z_Mo_73 z_Mo_74 z_Mo_75 z_Mo_76 z_Mo_77 z_Mo_78 z_Mo_79 z_Mo_80 z_Mo_81 z_Mo_82 z_Mo_83 z_Mo_84 z_Mo_85 z_Mo_86 z_Mo_87 z_Mo_88 z_Mo_89 z_Mo_90 z_Mo_91 z_Mo_92 z_Mo_93 z_Mo_94 z_Mo_95 z_Mo_96 z_Mo_97 z_Mo_98 z_Mo_99 z_Mo_100 z_Mo_101 z_Mo_102 z_Mo_103 z_Mo_104 z_Mo_105 z_Mo_106 z_Mo_107 z_Mo_108 z_Mo_109 z_Mo_110 z_Mo_111 z_Mo_112 z_Mo_113 z_Mo_114 z_Mo_115 z_Mo_116 z_Mo_117 z_Mo_118 z_Mo_119 z_Mo_120 z_Mo_121 z_Mo_122 z_Mo_123 z_Mo_124 z_Mo_125 z_Mo_126 z_Mo_127 z_Mo_128 z_Mo_129 z_Mo_130 z_Mo_131 z_Mo_132 z_Mo_133 z_Mo_134 z_Mo_135 z_Mo_136 z_Mo_137 z_Mo_138 z_Mo_139 z_Mo_140 z_Mo_141 z_Mo_142 z_Mo_143 z_Mo_144 z_Mo_145 z_Mo_146 z_Mo_147 z_Mo_148 z_Mo_149 z_Mo_150; simp only [condP, eq_self, implies_true, and_self, true_and, and_true, true_implies, forall_const, decide_eq_true_eq, decide_eq_false_iff_not, Int.toNat_natCast, dSpan_eSpan, dInt_eInt, dGau_e, dPt_e, dLn_e, dRt_e, Nat.zero_add, Int.zero_sub, Nat.le_eq, Nat.succ_eq_add_one, Nat.add_one_le_iff, Bool.not_eq_true', Bool.not_eq_false', rng_length, dSpan_mk, rng_getD, stm_eta, Int.ofNat_lt, show MkI.mk ⟨x.bs, 0, 0⟩ 9 = moM3 x from rfl, show mdG (moM3 x) = moG x from rfl, show mdR (moM3 x) = moR x from rfl, show pickV x.a 300 = moA x from rfl, show Stm.mk x.cs 0 0 = moS0 x from rfl, bnd_eta, rtg_eta]
 obtain ⟨hf, hpre⟩ := mo_facts x hb hc
 have hpre := hpre
 obtain ⟨q1, q2⟩ := hf.q
 have q1 : atE ⟨moR x, nextV (moS0 x) 250⟩ = 0 := q1
 have q2 : 1 <= (atM ⟨moR x, nextV (moS0 x) 250⟩).d := q2
 obtain ⟨f1, f2, f3, f4⟩ := hf.thru.sound hf.at_
 have hTw := hf.wid.thru hf.wok hf.thru
 obtain ⟨w1, w2, w3, w4⟩ := hTw.sound hf.at_
 obtain ⟨d1, d2⟩ := wide_flow hf.thru hf.wid hf.wok hf.at_
 have lt : (moTo x).length = (moG x).length + 1 := by simp [moTo]
 have hlen := hf.few
 have h1l := hf.thru.len.1
 have lw : (moW x).length = (moG x).length := hf.wid.len
 have hsub : ∀ y ∈ moG x, y ∈ moTo x := λ y hy => List.mem_append.2 (.inl hy)
 have hmf := more_flow hf.thru hsub (by omega) hf.tok hf.at_
 have hmr := more_few hf.thru hsub (by omega) hf.tok
 obtain ⟨wf1, wf2⟩ := wide_few hf.thru hf.wid hf.wok
 have hex := (few_thru hf.rt.chk hf.thru.can).1
 obtain ⟨u0, u1, u2⟩ := hf.s1
 have hst := hf.stm
 have bl := hf.rt.few
 have ll := hf.rt.lines
 rw [q1, f1, w1, f4, w4, (bel_iff f2 w2).2 d1, (bel_iff w3 f3).2 d2, hex, wf1, decide_eq_true (show ((fewM (moW x)).r.l.length : Int) <= ((fewM (moG x)).r.l.length : Int) by omega), decide_eq_false (show ¬(atM ⟨moR x, nextV (moS0 x) 250⟩).d < 1 by omega)]
 refine ⟨⟨rfl, hpre⟩, ⟨by omega, by omega⟩, ⟨rfl, u0⟩, ⟨by omega, by omega⟩, λ hc => (by cases hc), λ _ => ⟨⟨by omega, rfl, u1, by omega, rfl, rfl, u2⟩, ⟨⟨by omega, λ h => (by cases h), by omega, by omega⟩, default, lt, by omega, λ j hj => ?_, rfl, λ _ _ => rfl, rfl, rfl⟩, ⟨⟨⟨0, moS3 x, moG x⟩, ⟨rfl, rfl, λ _ _ => rfl, rfl, rfl, λ _ _ => ⟨rfl, rfl, rfl⟩⟩, Nat.zero_le _, rfl, ?_⟩, λ y ⟨y1, y2, y3⟩ => ⟨λ hlt => ?_, λ hge => ⟨default, lw, Nat.le_refl _, λ j hj => ?_⟩⟩⟩, ⟨by omega, by omega⟩, ⟨by omega, by omega⟩, ⟨by omega, by omega⟩, λ hc => ?_, λ _ => ⟨λ hc => ?_, λ _ => ⟨by omega, by omega, by omega, ?_⟩⟩⟩⟩
 ·have hs := snocG (moG x) (moGa x) j hj
  exact hs
 ·show moG x = widL (moS3 x) (moG x) 0
  refine ext_gD (widL_len _ _ _).symm λ i hi => ?_
  rw [widL_gD hi, if_neg (by omega)]
 ·obtain ⟨z1, z2⟩ : 0 <= y.s.used /\ 0 <= (nextS y.s 5).used := by
   have h1 := widS_ok hst (by omega) y.k (by omega)
   rw [<- y2] at h1
   exact ⟨h1.used.1, (h1.next (by omega) 5).used.1⟩
  have hc : (0 <= (y.k : Int) /\ y.k < (moG x).length) := ⟨by omega, hlt⟩
  refine ⟨⟨hc, hlt, rfl, z1, hc, hlt, rfl, z2, hc, hlt⟩, ⟨y.k + 1, nextS (nextS y.s 5) 5, widL (moS3 x) (moG x) (y.k + 1)⟩, ⟨(wsucc (by omega)).symm, rfl, λ _ _ => rfl, rfl, rfl, λ i hi => ?_⟩, ⟨by show y.k + 1 <= _; omega, by show nextS (nextS y.s 5) 5 = widS (y.k + 1) (moS3 x); rw [y2]; rfl, rfl⟩, by show (moG x).length - (y.k + 1) < _; omega⟩
  have g1 : gD y.l y.k = gD (moG x) y.k := by rw [y3, widL_gD hlt, if_neg (by omega)]
  rw [g1]
  show (gD (widL (moS3 x) (moG x) (y.k + 1)) i).st = _ /\ (gD (widL (moS3 x) (moG x) (y.k + 1)) i).lo = _ /\ (gD (widL (moS3 x) (moG x) (y.k + 1)) i).hi = _
  rw [widL_gD hi]
  by_cases he : i = y.k
  ·rw [he, if_pos (by omega), decide_eq_true rfl, y2]; exact ⟨rfl, rfl, rfl⟩
  ·rw [decide_eq_false he, y3, widL_gD hi]
   by_cases h2 : i < y.k
   ·rw [if_pos (by omega), if_pos h2]; exact ⟨rfl, rfl, rfl⟩
   ·rw [if_neg (by omega), if_neg h2]; exact ⟨rfl, rfl, rfl⟩
 ·have e : moW x = y.l := by rw [y3]; unfold moW; rw [show y.k = (moG x).length by omega]
  rw [e]; exact ⟨rfl, rfl, rfl⟩
 ·exfalso
  rcases hmf with h | ⟨h, _⟩ <;> rw [h] at hc <;> simp at hc
 ·exfalso
  rcases hmf with h | ⟨h, t1, t2, t3, t4, t5⟩
  ·rw [h] at hc; simp at hc
  ·rw [h, t3, (bel_iff t1 f2).2 t4, (bel_iff f3 t2).2 t5] at hc; simp at hc
 ·rcases hmr with h | ⟨h, hle⟩
  ·rw [h]; rfl
  ·rw [h, decide_eq_true (show ((fewM (moTo x)).r.l.length : Int) >= ((fewM (moG x)).r.l.length : Int) by omega)]; rfl
theorem ok_Mo (x : MoI) (hb : okBy x.bs) (hc : okBy x.cs) : FnT Try.prog n_lMore (xMo x) (heapOf []) (.bool true) [] := fnt (A := A_Mo x) (ren := []) (fz := []) fn_lMore (by kernel_rfl) (gok_cons ok_New (gok_cons ok_Made (gok_cons ok_Pick (gok_cons ok_cpG (gok_cons ok_Next (gok_cons ok_Within (gok_cons ok_At (gok_cons ok_Flow (gok_cons ok_sound (gok_cons ok_below (gok_cons ok_Rate (gok_cons ok_awake gok_nil)))))))))))) (p_Mo x hb hc)
end Go.Bal
