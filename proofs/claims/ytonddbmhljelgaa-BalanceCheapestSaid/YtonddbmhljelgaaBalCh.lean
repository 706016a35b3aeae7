/- BalanceCheapest. -/
import Derived.Test.YtonddbmhljelgaaBalLw2
set_option linter.unusedVariables false
set_option linter.unusedSimpArgs false
namespace Go.Bal
open Go Go.Sym Go.Proofs
structure BBB where
  a : List Int
  b : List Int
  c : List Int
structure CK where
  s : Stm
  k : Nat
  deriving Inhabited
structure YS where
  s : Stm
  y : TruthL
  m : Nat
  k : Nat
  deriving Inhabited
def chN (a : BBB) : NetL := spoN ⟨⟨a.b, 0, 0⟩, mkN a.a 7⟩
def chT (a : BBB) : TruthL := mkT a.a 7
def s16 (e : Bool) : Sym.Spec := fun xs H r => bif e && (Nat.beq r 18032 || Nat.beq r 20032) then C16.spec d16 xs H r else C16o.spec d16 xs H r
def chH (a : BBB) (e : Bool) (s : Stm) : List (Nat × HCell) := [(201, begO (chN a)), (202, truO (chT a)), (203, stmH s), (204, truO (setT (chN a)))]
def chS (a : BBB) (k : Nat) : List (Nat × AVal) := [(7, .bptr 201 0), (8, .bptr 202 0), (9, .bptr 203 0), (10, .bptr 204 0), (11, .int (setC (chN a))), (13, .d (eIntsL (levM (chN a)))), (19, .int k)]
def chInv (a : BBB) (gs : List Nat) (s : YS) : Prop := s.k < 6 ∧ 6 - s.k = gs.headD 0 ∧ s.m ≤ 3 ∧ BalT (chN a) s.y (47000000 - 1000 * (s.m : Int)) ∧ StmB (100 * (s.k : Int) + 30 - 2 * (s.m : Int)) s.s
def chY (s : YS) (e : Bool) : List (Nat × HCell) := bif e then [(205, .live (.box [.d (eIntsL s.y.f), .own 207 1 0 s.y.t.length])), (207, rowL s.y.t.length s.y.t)] else [(205, .live (.box [.own 206 1 0 s.y.f.length, .own 207 1 0 s.y.t.length])), (206, rowL s.y.f.length s.y.f), (207, rowL s.y.t.length s.y.t)]
def chIn (a : BBB) (e : Bool) (gs : List Nat) (l : List (Nat × Nat)) : Shape := { α := YS, dflt := default, T := fun s => ⟨chS a s.k ++ [(20, .bptr 205 0), (21, .int s.m)], chH a e s.s ++ chY s e⟩, inv := fun s => chInv a gs s, meas := fun s => s.m, first := l }
def chC (a : BBB) (e : Bool) (gs : List Nat) (l : List (Nat × Nat)) : Shape := { α := YS, dflt := default, T := fun s => ⟨chS a s.k ++ [(20, .bptr 205 0)], chH a e s.s ++ chY s e⟩, inv := fun s => chInv a gs s ∧ s.m = 3 ∧ StmB (100 * (s.k : Int) + 10) s.s, meas := fun _ => 0, first := l }
def A8 (a : BBB) (e : Bool) : Ann := { ann 261 [(30, C30.spec d30), (29, C29.spec d33), (32, C32.spec d32), (20, C20t.spec dN), (21, C21t.spec dN), (19, C19t.spec dN), (42, C42.spec dNT2), (24, C24.spec dP), (43, C43.spec d43), (33, C33.spec d33), (16, s16 e), (14, s14)] with cutIn := fun gs id => if id = 20 then some (bif e then [chC a e gs [(205, 18112), (207, 18080)], chC a e gs [(205, 18112), (207, 20080)]] else [chC a e gs [(205, 18112), (206, 18032), (207, 18080)], chC a e gs [(205, 18112), (206, 20032), (207, 20080)]]) else none, inner := fun gs id => if id = 15 then some [{ α := CK, dflt := default, T := fun s => ⟨chS a s.k, chH a e s.s⟩, inv := fun s => s.k ≤ 6 ∧ StmB (100 * (s.k : Int)) s.s, meas := fun s => 6 - s.k, first := [(201, 2096), (202, 2112), (203, 4016), (204, 5096)] }] else if id = 21 then some [chIn a e gs []] else none }
def xs3B (a : BBB) : List AVal := [.d (eBys a.a), .d (eBys a.b), .d (eBys a.c)]
def V8 (a : BBB) : Prop := fnVC Try.prog (A8 a false) Try.f8 (bodyOf Try.f8) (xs3B a) (heapOf []) (.bool true) [] [] []
abbrev z8_0 (a : BBB) : List Int := rng a.a.length fun (i : Nat) => gD a.a i
abbrev z8_1 (a : BBB) : Nat := (z8_0 a).length
abbrev z8_2 (a : BBB) (i : Nat) : Int := gD (z8_0 a) i
abbrev z8_3 (a : BBB) : List Int := rng (z8_1 a) fun (i : Nat) => z8_2 a i
abbrev z8_4 (a : BBB) : Nat := (z8_3 a).length
abbrev z8_5 : Prop := (0 : Int) = (0 : Int)
abbrev z8_6 (a : BBB) : Stm := Stm.mk (z8_3 a) (0 : Int) (0 : Int)
abbrev z8_7 (a : BBB) : List Int := rng a.b.length fun (i : Nat) => gD a.b i
abbrev z8_8 (a : BBB) : Nat := (z8_7 a).length
abbrev z8_9 (a : BBB) (i : Nat) : Int := gD (z8_7 a) i
abbrev z8_10 (a : BBB) : SN := SN.mk (z8_6 a) (7 : Int)
abbrev z8_11 (a : BBB) : NetL := madeN (z8_10 a)
abbrev z8_12 (a : BBB) : List Span := (z8_11 a).g
abbrev z8_13 (a : BBB) : Nat := (z8_12 a).length
abbrev z8_14 (a : BBB) (i : Nat) : Span := gD (z8_12 a) i
abbrev z8_15 (a : BBB) : List Span := rng (z8_13 a) fun (i : Nat) => z8_14 a i
abbrev z8_16 (a : BBB) : Nat := (z8_15 a).length
abbrev z8_17 (a : BBB) (i : Nat) : Span := gD (z8_15 a) i
abbrev z8_18 (a : BBB) : List Reach := (z8_11 a).r
abbrev z8_19 (a : BBB) : Nat := (z8_18 a).length
abbrev z8_20 (a : BBB) (i : Nat) : Reach := gD (z8_18 a) i
abbrev z8_21 (a : BBB) : List Reach := rng (z8_19 a) fun (i : Nat) => z8_20 a i
abbrev z8_22 (a : BBB) : Nat := (z8_21 a).length
abbrev z8_23 (a : BBB) (i : Nat) : Reach := gD (z8_21 a) i
abbrev z8_24 (a : BBB) (i : Nat) : Span := (z8_23 a i).sp
abbrev z8_25 (a : BBB) (i : Nat) : Span := (z8_20 a i).sp
abbrev z8_26 (a : BBB) : List Int := rng (z8_8 a) fun (i : Nat) => z8_9 a i
abbrev z8_27 (a : BBB) : Nat := (z8_26 a).length
abbrev z8_28 (a : BBB) : Stm := Stm.mk (z8_26 a) (0 : Int) (0 : Int)
abbrev z8_29 (a : BBB) : List Int := rng a.c.length fun (i : Nat) => gD a.c i
abbrev z8_30 (a : BBB) : Nat := (z8_29 a).length
abbrev z8_31 (a : BBB) (i : Nat) : Int := gD (z8_29 a) i
abbrev z8_32 (a : BBB) : NetL := spoN (SNet.mk (z8_28 a) (NetL.mk (z8_15 a) (z8_21 a)))
abbrev z8_33 (a : BBB) : List Span := (z8_32 a).g
abbrev z8_34 (a : BBB) : Nat := (z8_33 a).length
abbrev z8_35 (a : BBB) (i : Nat) : Span := gD (z8_33 a) i
abbrev z8_36 (a : BBB) : List Span := rng (z8_34 a) fun (i : Nat) => z8_35 a i
abbrev z8_37 (a : BBB) : Nat := (z8_36 a).length
abbrev z8_38 (a : BBB) : Prop := z8_37 a = z8_34 a
abbrev z8_39 (a : BBB) (i : Nat) : Span := gD (z8_36 a) i
abbrev z8_40 (a : BBB) (i : Nat) : Int := (z8_35 a i).lo
abbrev z8_41 (a : BBB) (i : Nat) : Int := (z8_35 a i).hi
abbrev z8_42 (a : BBB) : Prop := ∀ (i : Nat), i < z8_37 a → (z8_39 a i).lo = z8_40 a i ∧ (z8_39 a i).hi = z8_41 a i
abbrev z8_43 (a : BBB) : List Reach := (z8_32 a).r
abbrev z8_44 (a : BBB) : Nat := (z8_43 a).length
abbrev z8_45 (a : BBB) (i : Nat) : Reach := gD (z8_43 a) i
abbrev z8_46 (a : BBB) : List Reach := rng (z8_44 a) fun (i : Nat) => z8_45 a i
abbrev z8_47 (a : BBB) : Nat := (z8_46 a).length
abbrev z8_48 (a : BBB) : Prop := z8_47 a = z8_44 a
abbrev z8_49 (a : BBB) (i : Nat) : Reach := gD (z8_46 a) i
abbrev z8_50 (a : BBB) (i : Nat) : Int := (z8_45 a i).fr
abbrev z8_51 (a : BBB) (i : Nat) : Int := (z8_45 a i).to
abbrev z8_52 (a : BBB) (i : Nat) : Span := (z8_49 a i).sp
abbrev z8_53 (a : BBB) (i : Nat) : Span := (z8_45 a i).sp
abbrev z8_54 (a : BBB) (i : Nat) : Int := (z8_53 a i).lo
abbrev z8_55 (a : BBB) (i : Nat) : Int := (z8_53 a i).hi
abbrev z8_56 (a : BBB) : Prop := ∀ (i : Nat), i < z8_47 a → (z8_49 a i).fr = z8_50 a i ∧ (z8_49 a i).to = z8_51 a i ∧ (z8_52 a i).lo = z8_54 a i ∧ (z8_52 a i).hi = z8_55 a i
abbrev z8_57 (a : BBB) : Prop := z8_38 a ∧ z8_42 a ∧ z8_48 a ∧ z8_56 a
abbrev z8_58 (a : BBB) : NetL := NetL.mk (z8_36 a) (z8_46 a)
abbrev z8_59 (a : BBB) : Bool := checkL (z8_58 a) != (0 : Int)
abbrev z8_60 (a : BBB) : Int := corC (z8_58 a)
abbrev z8_61 (a : BBB) : List Int := levT (z8_58 a)
abbrev z8_62 (a : BBB) : Nat := (z8_61 a).length
abbrev z8_63 (a : BBB) : TruthL := corT (z8_58 a)
abbrev z8_64 (a : BBB) : List Int := (z8_63 a).f
abbrev z8_65 (a : BBB) : Nat := (z8_64 a).length
abbrev z8_66 (a : BBB) (i : Nat) : Int := gD (z8_64 a) i
abbrev z8_67 (a : BBB) : List Int := rng (z8_65 a) fun (i : Nat) => z8_66 a i
abbrev z8_68 (a : BBB) : Nat := (z8_67 a).length
abbrev z8_69 (a : BBB) : List Int := (z8_63 a).t
abbrev z8_70 (a : BBB) : Nat := (z8_69 a).length
abbrev z8_71 (a : BBB) (i : Nat) : Int := gD (z8_69 a) i
abbrev z8_72 (a : BBB) : List Int := rng (z8_70 a) fun (i : Nat) => z8_71 a i
abbrev z8_73 (a : BBB) : Nat := (z8_72 a).length
abbrev z8_74 (a : BBB) (i : Nat) : Int := gD (z8_61 a) i
abbrev z8_75 (a : BBB) : List Int := rng (z8_62 a) fun (i : Nat) => z8_74 a i
abbrev z8_76 (a : BBB) : Nat := (z8_75 a).length
abbrev z8_77 (a : BBB) : Prop := z8_76 a = z8_62 a ∧ (∀ (i : Nat), i < z8_76 a → gD (z8_75 a) i = z8_74 a i) ∧ (z8_76 a).succ.le (4611686018427387904 : Nat)
abbrev z8_78 (a : BBB) : Int := IntKind.i64.wrap (z8_60 a + (1 : Int))
abbrev z8_79 (a : BBB) : TruthL := TruthL.mk (z8_67 a) (z8_72 a)
abbrev z8_80 (a : BBB) : Int := provE (NPL.mk (z8_58 a) (z8_60 a) (z8_75 a))
abbrev z8_81 (a : BBB) : Int := provE (NPL.mk (z8_58 a) (z8_78 a) (z8_75 a))
abbrev z8_82 (a : BBB) : Int := provedM (z8_58 a) (z8_75 a)
abbrev z8_83 (a : BBB) : TruthL := madeTr (z8_10 a)
abbrev z8_84 (a : BBB) : List Int := (z8_83 a).f
abbrev z8_85 (a : BBB) : List Int := (z8_83 a).t
abbrev z8_86 (i : Nat) (a : BBB) : Prop := i < (setT (chN a)).f.length
abbrev z8_87 (i : Nat) (a : BBB) : Prop := i < (setT (chN a)).t.length
abbrev z8_88 (a : CK) : Prop := a.k ≤ (6 : Nat) ∧ StmB ((100 : Int) * (↑a.k : Int)) a.s
abbrev z8_89 (a : BBB) : List Int := rng (chT a).f.length fun (i : Nat) => gD (chT a).f i
abbrev z8_90 (a : BBB) : Nat := (z8_89 a).length
abbrev z8_91 (a : BBB) (i : Nat) : Int := gD (z8_89 a) i
abbrev z8_92 (a : BBB) : List Int := rng (chT a).t.length fun (i : Nat) => gD (chT a).t i
abbrev z8_93 (a : BBB) : Nat := (z8_92 a).length
abbrev z8_94 (a : BBB) (i : Nat) : Int := gD (z8_92 a) i
abbrev z8_95 (a : CK) : List Int := rng a.s.bs.length fun (i : Nat) => gD a.s.bs i
abbrev z8_96 (a : CK) : Nat := (z8_95 a).length
abbrev z8_97 (a : CK) : Stm := Stm.mk (z8_95 a) a.s.used a.s.mix
abbrev z8_98 (a : BBB) : List Int := rng (setT (chN a)).f.length fun (i : Nat) => gD (setT (chN a)).f i
abbrev z8_99 (a : BBB) : Nat := (z8_98 a).length
abbrev z8_100 (a : BBB) (i : Nat) : Int := gD (z8_98 a) i
abbrev z8_101 (a : BBB) : List Int := rng (setT (chN a)).t.length fun (i : Nat) => gD (setT (chN a)).t i
abbrev z8_102 (a : BBB) : Nat := (z8_101 a).length
abbrev z8_103 (a : BBB) (i : Nat) : Int := gD (z8_101 a) i
abbrev z8_104 (a : BBB) : Prop := (levM (chN a)).length = (levM (chN a)).length
abbrev z8_105 (a : BBB) : Prop := ∀ (i : Nat), i < (levM (chN a)).length → gD (levM (chN a)) i = gD (levM (chN a)) i
abbrev z8_106 (a : YS) (a1 : CK) : Prop := (↑a.k : Int) = (↑a1.k : Int)
abbrev z8_107 (a : BBB) : Prop := (chN a).g.length = (chN a).g.length
abbrev z8_108 (a : BBB) : Prop := ∀ (i : Nat), i < (chN a).g.length → (gD (chN a).g i).lo = (gD (chN a).g i).lo ∧ (gD (chN a).g i).hi = (gD (chN a).g i).hi
abbrev z8_109 (a : BBB) : Prop := (chN a).r.length = (chN a).r.length
abbrev z8_110 (a : BBB) : Prop := ∀ (i : Nat), i < (chN a).r.length → (gD (chN a).r i).fr = (gD (chN a).r i).fr ∧ (gD (chN a).r i).to = (gD (chN a).r i).to ∧ (gD (chN a).r i).sp.lo = (gD (chN a).r i).sp.lo ∧ (gD (chN
 a).r i).sp.hi = (gD (chN a).r i).sp.hi
abbrev z8_111 (a : BBB) : Prop := (chT a).f.length = (chT a).f.length
abbrev z8_112 (a : BBB) : Prop := ∀ (i : Nat), i < (chT a).f.length → gD (chT a).f i = gD (chT a).f i
abbrev z8_113 (a : BBB) : Prop := (chT a).t.length = (chT a).t.length
abbrev z8_114 (a : BBB) : Prop := ∀ (i : Nat), i < (chT a).t.length → gD (chT a).t i = gD (chT a).t i
abbrev z8_115 (a : CK) : Stm := nextS (z8_97 a) (2 : Int)
abbrev z8_116 (a : CK) : List Int := (z8_115 a).bs
abbrev z8_117 (a : YS) (a1 : CK) : Prop := a.s.bs.length = (z8_116 a1).length
abbrev z8_118 (a : YS) (a1 : CK) : Prop := ∀ (i : Nat), i < a.s.bs.length → gD a.s.bs i = gD (z8_116 a1) i
abbrev z8_119 (a : YS) (a1 : CK) : Prop := a.s.used = (z8_115 a1).used
abbrev z8_120 (a : YS) (a1 : CK) : Prop := a.s.mix = (z8_115 a1).mix
abbrev z8_121 (a : BBB) : Prop := (setT (chN a)).f.length = (setT (chN a)).f.length
abbrev z8_122 (a : BBB) : Prop := ∀ (i : Nat), z8_86 i a → gD (setT (chN a)).f i = gD (setT (chN a)).f i
abbrev z8_123 (a : BBB) : Prop := (setT (chN a)).t.length = (setT (chN a)).t.length
abbrev z8_124 (a : BBB) : Prop := ∀ (i : Nat), z8_87 i a → gD (setT (chN a)).t i = gD (setT (chN a)).t i
abbrev z8_125 : Prop := (0 : Nat) = (0 : Nat)
abbrev z8_126 (a : YS) (a1 : BBB) : Prop := a.y.f.length = z8_99 a1
abbrev z8_127 (a : YS) (a1 : BBB) : Prop := a.y.t.length = z8_102 a1
abbrev z8_128 (a : CK) : Nat := (6 : Nat) - a.k
abbrev z8_129 (a : CK) : List Nat := [z8_128 a]
abbrev z8_130 (a : YS) : Int := (100 : Int) * (↑a.k : Int)
abbrev z8_131 (a : YS) (a1 : CK) (a2 : BBB) : Prop := a.k < (6 : Nat) ∧ (6 : Nat) - a.k = (z8_129 a1).headD (0 : Nat) ∧ a.m ≤ (3 : Nat) ∧ BalT (chN a2) a.y ((47000000 : Int) - (1000 : Int) * (↑a.m : Int)) ∧ StmB (z8_130
 a + (30 : Int) - (2 : Int) * (↑a.m : Int)) a.s
abbrev z8_132 (a : YS) (a1 : CK) (a2 : BBB) : Prop := z8_131 a a1 a2 ∧ a.m = (3 : Nat) ∧ StmB (z8_130 a + (10 : Int)) a.s
abbrev z8_133 (a : YS) (a1 : BBB) : Prop := a.y.f.length = z8_90 a1
abbrev z8_134 (a : YS) (a1 : BBB) : Prop := a.y.t.length = z8_93 a1
abbrev z8_135 : Prop := (4 : Int) = Int.ofNat (4 : Nat)
abbrev z8_136 (a : YS) : List Int := rng a.s.bs.length fun (i : Nat) => gD a.s.bs i
abbrev z8_137 (a : YS) : Nat := (z8_136 a).length
abbrev z8_138 (a : YS) : Prop := z8_137 a = a.s.bs.length
abbrev z8_139 (a : YS) : Prop := ∀ (i : Nat), i < z8_137 a → gD (z8_136 a) i = gD a.s.bs i
abbrev z8_140 (a : YS) (a1 : YS) : Prop := (↑a.k : Int) = (↑a1.k : Int)
abbrev z8_141 (a : YS) : Stm := Stm.mk (z8_136 a) a.s.used a.s.mix
abbrev z8_142 (a : YS) : Stm := nextS (z8_141 a) (4 : Int)
abbrev z8_143 (a : YS) : List Int := (z8_142 a).bs
abbrev z8_144 (a : YS) (a1 : YS) : Prop := a.y.f.length = a1.y.f.length
abbrev z8_145 (a : YS) (a1 : YS) : Prop := a.y.t.length = a1.y.t.length
abbrev z8_146 (a : YS) : Prop := (0 : Int) ≤ a.s.used
abbrev z8_147 (a : YS) (a1 : BBB) : Stm := nextS (z8_141 a) (↑(chN a1).r.length : Int)
abbrev z8_148 (a : YS) (a1 : BBB) : List Int := (z8_147 a a1).bs
abbrev z8_149 (a : YS) (a1 : BBB) : Nat := (z8_148 a a1).length
abbrev z8_150 (a : YS) (a1 : BBB) (i : Nat) : Int := gD (z8_148 a a1) i
abbrev z8_151 (a : YS) (a1 : BBB) : List Int := rng (z8_149 a a1) fun (i : Nat) => z8_150 a a1 i
abbrev z8_152 (a : YS) (a1 : BBB) : Nat := (z8_151 a a1).length
abbrev z8_153 (a : YS) (a1 : BBB) : Int := (z8_147 a a1).used
abbrev z8_154 (a : YS) (a1 : BBB) : Int := (z8_147 a a1).mix
abbrev z8_155 (a : YS) (a1 : BBB) : Int := nextV (z8_141 a) (↑(chN a1).r.length : Int)
abbrev z8_156 (a : YS) (a1 : BBB) : Prop := (0 : Int) ≤ z8_155 a a1
abbrev z8_157 (a : YS) (a1 : BBB) : Prop := z8_156 a a1 ∧ z8_155 a a1 < (↑a.y.f.length : Int)
abbrev z8_158 (a : YS) (a1 : BBB) : Nat := (z8_155 a a1).toNat
abbrev z8_159 (a : YS) (a1 : BBB) : Nat := (0 : Nat) + z8_158 a a1
abbrev z8_160 (a : YS) (a1 : BBB) : Prop := z8_156 a a1 ∧ z8_155 a a1 < (↑(chN a1).r.length : Int)
abbrev z8_161 (a : BBB) (a1 : YS) : Reach := gD (chN a).r (z8_158 a1 a)
abbrev z8_162 (a : BBB) (a1 : YS) : Int := (z8_161 a a1).fr
abbrev z8_163 (a : BBB) (a1 : YS) : Prop := (0 : Int) ≤ z8_162 a a1 ∧ z8_162 a a1 < (↑a1.y.t.length : Int)
abbrev z8_164 (a : BBB) (a1 : YS) : Nat := (0 : Nat) + (z8_162 a a1).toNat
abbrev z8_165 (a : BBB) (a1 : YS) : Int := (z8_161 a a1).to
abbrev z8_166 (a : BBB) (a1 : YS) : Prop := (0 : Int) ≤ z8_165 a a1 ∧ z8_165 a a1 < (↑a1.y.t.length : Int)
abbrev z8_167 (a : BBB) (a1 : YS) : Nat := (0 : Nat) + (z8_165 a a1).toNat
abbrev z8_168 (a : YS) (a1 : BBB) : Stm := Stm.mk (z8_151 a a1) (z8_153 a a1) (z8_154 a a1)
abbrev z8_169 (a : YS) (a1 : BBB) : Stm := witS (z8_168 a a1) (-30 : Int) (30 : Int)
abbrev z8_170 (a : YS) (a1 : BBB) : List Int := (z8_169 a a1).bs
abbrev z8_171 (a : YS) (a1 : BBB) : Int := witV (z8_168 a a1) (-30 : Int) (30 : Int)
abbrev z8_172 (a : YS) (a1 : BBB) : Int := IntKind.i64.wrap (gD a.y.t (z8_164 a1 a) + z8_171 a a1)
abbrev z8_173 (a : BBB) (a1 : CK) (a2 : YS) : Nat := (chIn a false (z8_129 a1) []).meas a2
abbrev z8_174 (a : BBB) : List Span := rng (chN a).g.length fun (i : Nat) => gD (chN a).g i
abbrev z8_175 (a : BBB) : Nat := (z8_174 a).length
abbrev z8_176 (a : BBB) : Prop := z8_175 a = (chN a).g.length
abbrev z8_177 (a : BBB) (i : Nat) : Span := gD (z8_174 a) i
abbrev z8_178 (a : BBB) : Prop := ∀ (i : Nat), i < z8_175 a → (z8_177 a i).lo = (gD (chN a).g i).lo ∧ (z8_177 a i).hi = (gD (chN a).g i).hi
abbrev z8_179 (a : BBB) : List Reach := rng (chN a).r.length fun (i : Nat) => gD (chN a).r i
abbrev z8_180 (a : BBB) : Nat := (z8_179 a).length
abbrev z8_181 (a : BBB) : Prop := z8_180 a = (chN a).r.length
abbrev z8_182 (a : BBB) (i : Nat) : Reach := gD (z8_179 a) i
abbrev z8_183 (a : BBB) (i : Nat) : Span := (z8_182 a i).sp
abbrev z8_184 (a : BBB) : Prop := ∀ (i : Nat), i < z8_180 a → (z8_182 a i).fr = (gD (chN a).r i).fr ∧ (z8_182 a i).to = (gD (chN a).r i).to ∧ (z8_183 a i).lo = (gD (chN a).r i).sp.lo ∧ (z8_183 a i).hi = (gD (chN a).r
 i).sp.hi
abbrev z8_185 (a : YS) : List Int := rng a.y.f.length fun (i : Nat) => gD a.y.f i
abbrev z8_186 (a : YS) : Nat := (z8_185 a).length
abbrev z8_187 (j : Nat) : Nat := (0 : Nat) + j
abbrev z8_188 (a : YS) : List Int := rng a.y.t.length fun (i : Nat) => gD a.y.t i
abbrev z8_189 (a : YS) : Nat := (z8_188 a).length
abbrev z8_190 (a : BBB) : NetL := NetL.mk (z8_174 a) (z8_179 a)
abbrev z8_191 (a : YS) : TruthL := TruthL.mk (z8_185 a) (z8_188 a)
abbrev z8_192 (a : BBB) : List Int := rng (levM (chN a)).length fun (i : Nat) => gD (levM (chN a)) i
abbrev z8_193 (a : BBB) : Nat := (z8_192 a).length
abbrev z8_194 (a : BBB) (i : Nat) : Int := gD (z8_192 a) i
abbrev z8_195 (a : YS) (a1 : BBB) : Stm := nextS (z8_141 a) (↑(z8_193 a1) : Int)
abbrev z8_196 (a : YS) (a1 : BBB) : List Int := (z8_195 a a1).bs
abbrev z8_197 (a : YS) (a1 : BBB) : Nat := (z8_196 a a1).length
abbrev z8_198 (a : YS) (a1 : BBB) (i : Nat) : Int := gD (z8_196 a a1) i
abbrev z8_199 (a : YS) (a1 : BBB) : List Int := rng (z8_197 a a1) fun (i : Nat) => z8_198 a a1 i
abbrev z8_200 (a : YS) (a1 : BBB) : Nat := (z8_199 a a1).length
abbrev z8_201 (a : YS) (a1 : BBB) : Int := (z8_195 a a1).used
abbrev z8_202 (a : YS) (a1 : BBB) : Int := (z8_195 a a1).mix
abbrev z8_203 (a : YS) (a1 : BBB) : Int := nextV (z8_141 a) (↑(z8_193 a1) : Int)
abbrev z8_204 (a : YS) (a1 : BBB) : Nat := (0 : Nat) + (z8_203 a a1).toNat
abbrev z8_205 (a : YS) (a1 : BBB) : Stm := Stm.mk (z8_199 a a1) (z8_201 a a1) (z8_202 a a1)
abbrev z8_206 (a : YS) (a1 : BBB) : Stm := witS (z8_205 a a1) (-1 : Int) (1 : Int)
abbrev z8_207 (a : YS) (a1 : BBB) : List Int := (z8_206 a a1).bs
abbrev z8_208 (a : YS) (a1 : BBB) : Nat := (z8_207 a a1).length
abbrev z8_209 (a : YS) (a1 : BBB) (i : Nat) : Int := gD (z8_207 a a1) i
abbrev z8_210 (a : YS) (a1 : BBB) : List Int := rng (z8_208 a a1) fun (i : Nat) => z8_209 a a1 i
abbrev z8_211 (a : YS) (a1 : BBB) : Nat := (z8_210 a a1).length
abbrev z8_212 (a : YS) (a1 : BBB) : Int := (z8_206 a a1).used
abbrev z8_213 (a : YS) (a1 : BBB) : Int := (z8_206 a a1).mix
abbrev z8_214 (a : YS) (a1 : BBB) : Stm := Stm.mk (z8_210 a a1) (z8_212 a a1) (z8_213 a a1)
abbrev z8_215 (a : BBB) (a1 : YS) : Int := IntKind.i64.wrap (setC (chN a) + nextV (z8_214 a1 a) (4 : Int))
abbrev z8_216 (i : Nat) (a : YS) (a1 : BBB) : Prop := i = z8_204 a a1
abbrev z8_217 (a : YS) (a1 : BBB) : Int := witV (z8_205 a a1) (-1 : Int) (1 : Int)
abbrev z8_218 (a : BBB) (a1 : YS) : List Int := rng (z8_193 a) fun (i : Nat) => bif decide (z8_216 i a1 a) then z8_217 a1 a else z8_194 a i
abbrev z8_219 (a : BBB) (a1 : YS) : Int := provE (NPL.mk (z8_190 a) (z8_215 a a1) (z8_218 a a1))
abbrev z8_220 (a : YS) (a1 : BBB) : Stm := nextS (z8_214 a a1) (4 : Int)
abbrev z8_221 (a : YS) (a1 : BBB) : List Int := (z8_220 a a1).bs
abbrev z8_222 (a : CK) (a1 : BBB) : Prop := ∀ (a_1 : YS), z8_132 a_1 a a1 → (z8_135 ∧ z8_138 a_1 ∧ z8_139 a_1 ∧ a_1.s.used = a_1.s.used ∧ a_1.s.mix = a_1.s.mix ∧ (a_1.s.used - (0 : Int)).NonNeg) ∧ (∃ (a_3 : YS), (setC
 (chN a1) = setC (chN a1) ∧ z8_104 a1 ∧ z8_105 a1 ∧ z8_140 a_3 a_1 ∧ (↑a_3.m : Int) = nextV (z8_141 a_1) (4 : Int) ∧ z8_107 a1 ∧ z8_108 a1 ∧ z8_109 a1 ∧ z8_110 a1 ∧ z8_111 a1 ∧ z8_112 a1 ∧ z8_113 a1 ∧ z8_114 a1 ∧
 a_3.s.bs.length = (z8_143 a_1).length ∧ (∀ (i : Nat), i < a_3.s.bs.length → gD a_3.s.bs i = gD (z8_143 a_1) i) ∧ a_3.s.used = (z8_142 a_1).used ∧ a_3.s.mix = (z8_142 a_1).mix ∧ z8_121 a1 ∧ z8_122 a1 ∧ z8_123 a1 ∧ z8_124
 a1 ∧ z8_125 ∧ z8_144 a_3 a_1 ∧ z8_125 ∧ z8_145 a_3 a_1 ∧ z8_144 a_3 a_1 ∧ (∀ (i : Nat), i < a_3.y.f.length → gD a_3.y.f i = gD a_1.y.f i) ∧ z8_145 a_3 a_1 ∧ ∀ (i : Nat), i < a_3.y.t.length → gD a_3.y.t i = gD a_1.y.t i)
 ∧ z8_131 a_3 a a1) ∧ ∀ (a_3 : YS), z8_131 a_3 a a1 → bif bif decide ((↑a_3.m : Int) > (0 : Int)) then decide ((↑(chN a1).r.length : Int) > (0 : Int)) else false then ((↑(chN a1).r.length : Int) = (↑(chN a1).r.length :
 Int) ∧ z8_138 a_3 ∧ z8_139 a_3 ∧ a_3.s.used = a_3.s.used ∧ a_3.s.mix = a_3.s.mix ∧ z8_146 a_3 ∧ (-30 : Int) = Int.negSucc (29 : Nat) ∧ (30 : Int) = Int.ofNat (30 : Nat) ∧ z8_152 a_3 a1 = z8_149 a_3 a1 ∧ (∀ (i : Nat), i <
 z8_152 a_3 a1 → gD (z8_151 a_3 a1) i = z8_150 a_3 a1 i) ∧ z8_153 a_3 a1 = z8_153 a_3 a1 ∧ z8_154 a_3 a1 = z8_154 a_3 a1 ∧ (z8_153 a_3 a1 - (0 : Int)).NonNeg) ∧ (z8_157 a_3 a1 ∧ z8_159 a_3 a1 < a_3.y.f.length ∧ z8_157 a_3
 a1 ∧ (z8_159 a_3 a1).succ.le a_3.y.f.length) ∧ (z8_160 a_3 a1 ∧ z8_163 a1 a_3 ∧ z8_164 a1 a_3 < a_3.y.t.length ∧ z8_163 a1 a_3 ∧ (z8_164 a1 a_3).succ.le a_3.y.t.length) ∧ (z8_160 a_3 a1 ∧ z8_166 a1 a_3 ∧ z8_167 a1 a_3 <
 a_3.y.t.length ∧ z8_166 a1 a_3 ∧ (z8_167 a1 a_3).succ.le a_3.y.t.length) ∧ ∃ (a_5 : YS), (setC (chN a1) = setC (chN a1) ∧ z8_104 a1 ∧ z8_105 a1 ∧ z8_140 a_5 a_3 ∧ (↑a_5.m : Int) = IntKind.i64.wrap ((↑a_3.m : Int) - (1 :
 Int)) ∧ z8_107 a1 ∧ z8_108 a1 ∧ z8_109 a1 ∧ z8_110 a1 ∧ z8_111 a1 ∧ z8_112 a1 ∧ z8_113 a1 ∧ z8_114 a1 ∧ a_5.s.bs.length = (z8_170 a_3 a1).length ∧ (∀ (i : Nat), i < a_5.s.bs.length → gD a_5.s.bs i = gD (z8_170 a_3 a1) i)
 ∧ a_5.s.used = (z8_169 a_3 a1).used ∧ a_5.s.mix = (z8_169 a_3 a1).mix ∧ z8_121 a1 ∧ z8_122 a1 ∧ z8_123 a1 ∧ z8_124 a1 ∧ z8_125 ∧ z8_144 a_5 a_3 ∧ z8_125 ∧ z8_145 a_5 a_3 ∧ z8_144 a_5 a_3 ∧ (∀ (i : Nat), i <
 a_5.y.f.length → gD a_5.y.f i = bif decide (i = z8_159 a_3 a1) then IntKind.i64.wrap (gD a_3.y.f (z8_159 a_3 a1) + z8_171 a_3 a1) else gD a_3.y.f i) ∧ z8_145 a_5 a_3 ∧ ∀ (i : Nat), i < a_5.y.t.length → gD a_5.y.t i = bif
 decide (i = z8_167 a1 a_3) then IntKind.i64.wrap ((bif decide (z8_167 a1 a_3 = z8_164 a1 a_3) then z8_172 a_3 a1 else gD a_3.y.t (z8_167 a1 a_3)) - z8_171 a_3 a1) else bif decide (i = z8_164 a1 a_3) then z8_172 a_3 a1
 else gD a_3.y.t i) ∧ z8_131 a_5 a a1 ∧ z8_173 a1 a a_5 < z8_173 a1 a a_3 else (z8_176 a1 ∧ z8_178 a1 ∧ z8_181 a1 ∧ z8_184 a1 ∧ z8_186 a_3 = a_3.y.f.length ∧ (0 : Nat) + a_3.y.f.length ≤ a_3.y.f.length ∧ (∀ (j : Nat), j <
 z8_186 a_3 → gD (z8_185 a_3) j = gD a_3.y.f (z8_187 j)) ∧ z8_189 a_3 = a_3.y.t.length ∧ (0 : Nat) + a_3.y.t.length ≤ a_3.y.t.length ∧ (∀ (j : Nat), j < z8_189 a_3 → gD (z8_188 a_3) j = gD a_3.y.t (z8_187 j)) ∧ (z8_175 a1
 ≤ (1000000 : Nat) ∧ z8_180 a1 ≤ (1000000 : Nat)) ∧ z8_186 a_3 ≤ (1000000 : Nat) ∧ z8_189 a_3 ≤ (1000000 : Nat)) ∧ bif bif costE (z8_190 a1) (z8_191 a_3) != (0 : Int) then true else decide (costV (z8_190 a1) (z8_191 a_3)
 < setC (chN a1)) then true = false else (z8_193 a1 = (levM (chN a1)).length ∧ (∀ (i : Nat), i < z8_193 a1 → z8_194 a1 i = gD (levM (chN a1)) i) ∧ (0 : Nat) < z8_193 a1 ∧ z8_193 a1 ≤ (1000 : Nat)) ∧ ((↑(z8_193 a1) : Int)
 = (↑(z8_193 a1) : Int) ∧ z8_138 a_3 ∧ z8_139 a_3 ∧ a_3.s.used = a_3.s.used ∧ a_3.s.mix = a_3.s.mix ∧ z8_146 a_3 ∧ (-1 : Int) = Int.negSucc (0 : Nat) ∧ (1 : Int) = Int.ofNat (1 : Nat) ∧ z8_200 a_3 a1 = z8_197 a_3 a1 ∧ (∀
 (i : Nat), i < z8_200 a_3 a1 → gD (z8_199 a_3 a1) i = z8_198 a_3 a1 i) ∧ z8_201 a_3 a1 = z8_201 a_3 a1 ∧ z8_202 a_3 a1 = z8_202 a_3 a1 ∧ (0 : Int) ≤ z8_201 a_3 a1 ∧ ((0 : Int) ≤ z8_203 a_3 a1 ∧ z8_203 a_3 a1 < (↑(z8_193
 a1) : Int)) ∧ (z8_204 a_3 a1).succ.le (z8_193 a1)) ∧ (z8_135 ∧ z8_211 a_3 a1 = z8_208 a_3 a1 ∧ (∀ (i : Nat), i < z8_211 a_3 a1 → gD (z8_210 a_3 a1) i = z8_209 a_3 a1 i) ∧ z8_212 a_3 a1 = z8_212 a_3 a1 ∧ z8_213 a_3 a1 =
 z8_213 a_3 a1 ∧ (z8_212 a_3 a1 - (0 : Int)).NonNeg) ∧ (z8_176 a1 ∧ z8_178 a1 ∧ z8_181 a1 ∧ z8_184 a1 ∧ z8_215 a1 a_3 = z8_215 a1 a_3 ∧ (z8_218 a1 a_3).length = z8_193 a1 ∧ (0 : Nat) + z8_193 a1 ≤ z8_193 a1 ∧ (∀ (j :
 Nat), j < (rng (z8_193 a1) fun (i : Nat) => bif decide (z8_216 i a_3 a1) then z8_217 a_3 a1 else z8_194 a1 i).length → gD (z8_218 a1 a_3) j = bif decide (z8_187 j = z8_204 a_3 a1) then z8_217 a_3 a1 else gD (z8_192 a1)
 (z8_187 j)) ∧ (rng (z8_193 a1) fun (i : Nat) => bif decide (z8_216 i a_3 a1) then z8_217 a_3 a1 else z8_194 a1 i).length.succ.le (4611686018427387904 : Nat)) ∧ bif bif bif z8_219 a1 a_3 != (0 : Int) then z8_219 a1 a_3 !=
 (2 : Int) else false then true else bif decide (z8_219 a1 a_3 = (0 : Int)) && decide (z8_215 a1 a_3 ≤ provedM (z8_190 a1) (z8_218 a1 a_3)) then decide (z8_215 a1 a_3 > setC (chN a1)) else false then true = false else ∃
 (a_5 : CK), (setC (chN a1) = setC (chN a1) ∧ z8_104 a1 ∧ z8_105 a1 ∧ (↑a_5.k : Int) = IntKind.i64.wrap ((↑a_3.k : Int) + (1 : Int)) ∧ z8_107 a1 ∧ z8_108 a1 ∧ z8_109 a1 ∧ z8_110 a1 ∧ z8_111 a1 ∧ z8_112 a1 ∧ z8_113 a1 ∧
 z8_114 a1 ∧ a_5.s.bs.length = (z8_221 a_3 a1).length ∧ (∀ (i : Nat), i < a_5.s.bs.length → gD a_5.s.bs i = gD (z8_221 a_3 a1) i) ∧ a_5.s.used = (z8_220 a_3 a1).used ∧ a_5.s.mix = (z8_220 a_3 a1).mix ∧ z8_121 a1 ∧ z8_122
 a1 ∧ z8_123 a1 ∧ z8_124 a1) ∧ z8_88 a_5 ∧ z8_128 a_5 < z8_128 a
theorem vc8 (a : BBB) : (V8 a) = ((z8_1 a = a.a.length ∧ (∀ (i : Nat), i < z8_1 a → z8_2 a i = gD a.a i) ∧ (7 : Int) = Int.ofNat (7 : Nat) ∧ z8_4 a = z8_1 a ∧ (∀ (i : Nat), i < z8_4 a → gD (z8_3 a) i = z8_2 a i) ∧ z8_5 ∧
 z8_5 ∧ StmB (1000000000 : Int) (z8_6 a) ∧ (1 : Int) ≤ (7 : Int) ∧ (7 : Int) ≤ (8 : Int)) ∧ (z8_8 a = a.b.length ∧ (∀ (i : Nat), i < z8_8 a → z8_9 a i = gD a.b i) ∧ z8_16 a = z8_13 a ∧ (∀ (i : Nat), i < z8_16 a → (z8_17 a
 i).lo = (z8_14 a i).lo ∧ (z8_17 a i).hi = (z8_14 a i).hi) ∧ z8_22 a = z8_19 a ∧ (∀ (i : Nat), i < z8_22 a → (z8_23 a i).fr = (z8_20 a i).fr ∧ (z8_23 a i).to = (z8_20 a i).to ∧ (z8_24 a i).lo = (z8_25 a i).lo ∧ (z8_24 a
 i).hi = (z8_25 a i).hi) ∧ z8_27 a = z8_8 a ∧ (∀ (i : Nat), i < z8_27 a → gD (z8_26 a) i = z8_9 a i) ∧ z8_5 ∧ z8_5 ∧ StmB (1000000000 : Int) (z8_28 a) ∧ z8_16 a ≤ (1000 : Nat) ∧ (z8_22 a).le (1000 : Nat)) ∧ (z8_30 a =
 a.c.length ∧ ∀ (i : Nat), i < z8_30 a → z8_31 a i = gD a.c i) ∧ z8_57 a ∧ z8_57 a ∧ z8_57 a ∧ bif bif bif bif bif bif bif z8_59 a then true else z8_59 a then true else z8_59 a then true else !agrM (z8_58 a) == (z8_60 a
 == (0 : Int)) then true else decide (z8_60 a < (0 : Int)) then true else (↑(z8_62 a) : Int) != (↑(z8_34 a) : Int) then true else (↑(z8_65 a) : Int) != (↑(z8_44 a) : Int) then true = false else (z8_38 a ∧ z8_42 a ∧ z8_48
 a ∧ z8_56 a ∧ z8_68 a = z8_65 a ∧ (∀ (i : Nat), i < z8_68 a → gD (z8_67 a) i = z8_66 a i) ∧ z8_73 a = z8_70 a ∧ (∀ (i : Nat), i < z8_73 a → gD (z8_72 a) i = z8_71 a i) ∧ (z8_37 a ≤ (1000000 : Nat) ∧ z8_47 a ≤ (1000000 :
 Nat)) ∧ z8_68 a ≤ (1000000 : Nat) ∧ z8_73 a ≤ (1000000 : Nat)) ∧ (z8_38 a ∧ z8_42 a ∧ z8_48 a ∧ z8_56 a ∧ z8_60 a = z8_60 a ∧ z8_77 a) ∧ (z8_38 a ∧ z8_42 a ∧ z8_48 a ∧ z8_56 a ∧ z8_78 a = z8_78 a ∧ z8_77 a) ∧ bif bif bif
 bif bif bif costE (z8_58 a) (z8_79 a) != (0 : Int) then true else z8_80 a != (0 : Int) then true else z8_81 a != (0 : Int) then true else costV (z8_58 a) (z8_79 a) != z8_60 a then true else !(decide (z8_80 a = (0 : Int))
 && decide (z8_60 a ≤ z8_82 a)) then true else decide (z8_81 a = (0 : Int)) && decide (z8_78 a ≤ z8_82 a) then true = false else (∃ (a_1 : CK), (setC (chN a) = z8_60 a ∧ (levM (chN a)).length = z8_62 a ∧ (∀ (i : Nat), i <
 (levM (chN a)).length → gD (levM (chN a)) i = z8_74 a i) ∧ (↑a_1.k : Int) = (0 : Int) ∧ (chN a).g.length = z8_34 a ∧ (∀ (i : Nat), i < (chN a).g.length → (gD (chN a).g i).lo = z8_40 a i ∧ (gD (chN a).g i).hi = z8_41 a i)
 ∧ (chN a).r.length = z8_44 a ∧ (∀ (i : Nat), i < (chN a).r.length → (gD (chN a).r i).fr = z8_50 a i ∧ (gD (chN a).r i).to = z8_51 a i ∧ (gD (chN a).r i).sp.lo = z8_54 a i ∧ (gD (chN a).r i).sp.hi = z8_55 a i) ∧ (chT
 a).f.length = (z8_84 a).length ∧ (∀ (i : Nat), i < (chT a).f.length → gD (chT a).f i = gD (z8_84 a) i) ∧ (chT a).t.length = (z8_85 a).length ∧ (∀ (i : Nat), i < (chT a).t.length → gD (chT a).t i = gD (z8_85 a) i) ∧
 a_1.s.bs.length = z8_30 a ∧ (∀ (i : Nat), i < a_1.s.bs.length → gD a_1.s.bs i = z8_31 a i) ∧ a_1.s.used = (0 : Int) ∧ a_1.s.mix = (0 : Int) ∧ (setT (chN a)).f.length = z8_65 a ∧ (∀ (i : Nat), z8_86 i a → gD (setT (chN
 a)).f i = z8_66 a i) ∧ (setT (chN a)).t.length = z8_70 a ∧ ∀ (i : Nat), z8_87 i a → gD (setT (chN a)).t i = z8_71 a i) ∧ z8_88 a_1) ∧ ∀ (a_1 : CK), z8_88 a_1 → bif decide ((↑a_1.k : Int) < (6 : Int)) then (z8_90 a = (chT
 a).f.length ∧ (∀ (i : Nat), i < z8_90 a → z8_91 a i = gD (chT a).f i) ∧ ((0 : Nat) < z8_90 a ∧ z8_90 a ≤ (1000 : Nat)) ∧ z8_93 a = (chT a).t.length ∧ (∀ (i : Nat), i < z8_93 a → z8_94 a i = gD (chT a).t i) ∧ (0 : Nat) <
 z8_93 a ∧ z8_93 a ≤ (1000 : Nat)) ∧ (((2 : Int) = Int.ofNat (2 : Nat) ∧ z8_96 a_1 = a_1.s.bs.length ∧ (∀ (i : Nat), i < z8_96 a_1 → gD (z8_95 a_1) i = gD a_1.s.bs i) ∧ a_1.s.used = a_1.s.used ∧ a_1.s.mix = a_1.s.mix ∧
 (a_1.s.used - (0 : Int)).NonNeg) ∧ bif nextV (z8_97 a_1) (2 : Int) == (0 : Int) then (z8_99 a = (setT (chN a)).f.length ∧ (∀ (i : Nat), i < z8_99 a → z8_100 a i = gD (setT (chN a)).f i) ∧ ((0 : Nat) < z8_99 a ∧ z8_99 a ≤
 (1000 : Nat)) ∧ z8_102 a = (setT (chN a)).t.length ∧ (∀ (i : Nat), i < z8_102 a → z8_103 a i = gD (setT (chN a)).t i) ∧ (0 : Nat) < z8_102 a ∧ z8_102 a ≤ (1000 : Nat)) ∧ ∃ (a_3 : YS), (setC (chN a) = setC (chN a) ∧
 z8_104 a ∧ z8_105 a ∧ z8_106 a_3 a_1 ∧ z8_107 a ∧ z8_108 a ∧ z8_109 a ∧ z8_110 a ∧ z8_111 a ∧ z8_112 a ∧ z8_113 a ∧ z8_114 a ∧ z8_117 a_3 a_1 ∧ z8_118 a_3 a_1 ∧ z8_119 a_3 a_1 ∧ z8_120 a_3 a_1 ∧ z8_121 a ∧ z8_122 a ∧
 z8_123 a ∧ z8_124 a ∧ z8_125 ∧ z8_126 a_3 a ∧ z8_125 ∧ z8_127 a_3 a ∧ z8_126 a_3 a ∧ (∀ (i : Nat), i < a_3.y.f.length → gD a_3.y.f i = z8_100 a i) ∧ z8_127 a_3 a ∧ ∀ (i : Nat), i < a_3.y.t.length → gD a_3.y.t i = z8_103
 a i) ∧ z8_132 a_3 a_1 a else ∃ (a_3 : YS), (setC (chN a) = setC (chN a) ∧ z8_104 a ∧ z8_105 a ∧ z8_106 a_3 a_1 ∧ z8_107 a ∧ z8_108 a ∧ z8_109 a ∧ z8_110 a ∧ z8_111 a ∧ z8_112 a ∧ z8_113 a ∧ z8_114 a ∧ z8_117 a_3 a_1 ∧
 z8_118 a_3 a_1 ∧ z8_119 a_3 a_1 ∧ z8_120 a_3 a_1 ∧ z8_121 a ∧ z8_122 a ∧ z8_123 a ∧ z8_124 a ∧ z8_125 ∧ z8_133 a_3 a ∧ z8_125 ∧ z8_134 a_3 a ∧ z8_133 a_3 a ∧ (∀ (i : Nat), i < a_3.y.f.length → gD a_3.y.f i = z8_91 a i) ∧
 z8_134 a_3 a ∧ ∀ (i : Nat), i < a_3.y.t.length → gD a_3.y.t i = z8_94 a i) ∧ z8_132 a_3 a_1 a) ∧ z8_222 a_1 a ∧ z8_222 a_1 a else true = true) := by kernel_rfl
def V8e (a : BBB) : Prop := fnVC Try.prog (A8 a true) Try.f8 (bodyOf Try.f8) (xs3B a) (heapOf []) (.bool true) [] [] []
abbrev z8e_0 (a : BBB) : List Int := rng a.a.length fun (i : Nat) => gD a.a i
abbrev z8e_1 (a : BBB) : Nat := (z8e_0 a).length
abbrev z8e_2 (a : BBB) (i : Nat) : Int := gD (z8e_0 a) i
abbrev z8e_3 (a : BBB) : List Int := rng (z8e_1 a) fun (i : Nat) => z8e_2 a i
abbrev z8e_4 (a : BBB) : Nat := (z8e_3 a).length
abbrev z8e_5 : Prop := (0 : Int) = (0 : Int)
abbrev z8e_6 (a : BBB) : Stm := Stm.mk (z8e_3 a) (0 : Int) (0 : Int)
abbrev z8e_7 (a : BBB) : List Int := rng a.b.length fun (i : Nat) => gD a.b i
abbrev z8e_8 (a : BBB) : Nat := (z8e_7 a).length
abbrev z8e_9 (a : BBB) (i : Nat) : Int := gD (z8e_7 a) i
abbrev z8e_10 (a : BBB) : SN := SN.mk (z8e_6 a) (7 : Int)
abbrev z8e_11 (a : BBB) : NetL := madeN (z8e_10 a)
abbrev z8e_12 (a : BBB) : List Span := (z8e_11 a).g
abbrev z8e_13 (a : BBB) : Nat := (z8e_12 a).length
abbrev z8e_14 (a : BBB) (i : Nat) : Span := gD (z8e_12 a) i
abbrev z8e_15 (a : BBB) : List Span := rng (z8e_13 a) fun (i : Nat) => z8e_14 a i
abbrev z8e_16 (a : BBB) : Nat := (z8e_15 a).length
abbrev z8e_17 (a : BBB) (i : Nat) : Span := gD (z8e_15 a) i
abbrev z8e_18 (a : BBB) : List Reach := (z8e_11 a).r
abbrev z8e_19 (a : BBB) : Nat := (z8e_18 a).length
abbrev z8e_20 (a : BBB) (i : Nat) : Reach := gD (z8e_18 a) i
abbrev z8e_21 (a : BBB) : List Reach := rng (z8e_19 a) fun (i : Nat) => z8e_20 a i
abbrev z8e_22 (a : BBB) : Nat := (z8e_21 a).length
abbrev z8e_23 (a : BBB) (i : Nat) : Reach := gD (z8e_21 a) i
abbrev z8e_24 (a : BBB) (i : Nat) : Span := (z8e_23 a i).sp
abbrev z8e_25 (a : BBB) (i : Nat) : Span := (z8e_20 a i).sp
abbrev z8e_26 (a : BBB) : List Int := rng (z8e_8 a) fun (i : Nat) => z8e_9 a i
abbrev z8e_27 (a : BBB) : Nat := (z8e_26 a).length
abbrev z8e_28 (a : BBB) : Stm := Stm.mk (z8e_26 a) (0 : Int) (0 : Int)
abbrev z8e_29 (a : BBB) : List Int := rng a.c.length fun (i : Nat) => gD a.c i
abbrev z8e_30 (a : BBB) : Nat := (z8e_29 a).length
abbrev z8e_31 (a : BBB) (i : Nat) : Int := gD (z8e_29 a) i
abbrev z8e_32 (a : BBB) : NetL := spoN (SNet.mk (z8e_28 a) (NetL.mk (z8e_15 a) (z8e_21 a)))
abbrev z8e_33 (a : BBB) : List Span := (z8e_32 a).g
abbrev z8e_34 (a : BBB) : Nat := (z8e_33 a).length
abbrev z8e_35 (a : BBB) (i : Nat) : Span := gD (z8e_33 a) i
abbrev z8e_36 (a : BBB) : List Span := rng (z8e_34 a) fun (i : Nat) => z8e_35 a i
abbrev z8e_37 (a : BBB) : Nat := (z8e_36 a).length
abbrev z8e_38 (a : BBB) : Prop := z8e_37 a = z8e_34 a
abbrev z8e_39 (a : BBB) (i : Nat) : Span := gD (z8e_36 a) i
abbrev z8e_40 (a : BBB) (i : Nat) : Int := (z8e_35 a i).lo
abbrev z8e_41 (a : BBB) (i : Nat) : Int := (z8e_35 a i).hi
abbrev z8e_42 (a : BBB) : Prop := ∀ (i : Nat), i < z8e_37 a → (z8e_39 a i).lo = z8e_40 a i ∧ (z8e_39 a i).hi = z8e_41 a i
abbrev z8e_43 (a : BBB) : List Reach := (z8e_32 a).r
abbrev z8e_44 (a : BBB) : Nat := (z8e_43 a).length
abbrev z8e_45 (a : BBB) (i : Nat) : Reach := gD (z8e_43 a) i
abbrev z8e_46 (a : BBB) : List Reach := rng (z8e_44 a) fun (i : Nat) => z8e_45 a i
abbrev z8e_47 (a : BBB) : Nat := (z8e_46 a).length
abbrev z8e_48 (a : BBB) : Prop := z8e_47 a = z8e_44 a
abbrev z8e_49 (a : BBB) (i : Nat) : Reach := gD (z8e_46 a) i
abbrev z8e_50 (a : BBB) (i : Nat) : Int := (z8e_45 a i).fr
abbrev z8e_51 (a : BBB) (i : Nat) : Int := (z8e_45 a i).to
abbrev z8e_52 (a : BBB) (i : Nat) : Span := (z8e_49 a i).sp
abbrev z8e_53 (a : BBB) (i : Nat) : Span := (z8e_45 a i).sp
abbrev z8e_54 (a : BBB) (i : Nat) : Int := (z8e_53 a i).lo
abbrev z8e_55 (a : BBB) (i : Nat) : Int := (z8e_53 a i).hi
abbrev z8e_56 (a : BBB) : Prop := ∀ (i : Nat), i < z8e_47 a → (z8e_49 a i).fr = z8e_50 a i ∧ (z8e_49 a i).to = z8e_51 a i ∧ (z8e_52 a i).lo = z8e_54 a i ∧ (z8e_52 a i).hi = z8e_55 a i
abbrev z8e_57 (a : BBB) : Prop := z8e_38 a ∧ z8e_42 a ∧ z8e_48 a ∧ z8e_56 a
abbrev z8e_58 (a : BBB) : NetL := NetL.mk (z8e_36 a) (z8e_46 a)
abbrev z8e_59 (a : BBB) : Bool := checkL (z8e_58 a) != (0 : Int)
abbrev z8e_60 (a : BBB) : Int := corC (z8e_58 a)
abbrev z8e_61 (a : BBB) : List Int := levT (z8e_58 a)
abbrev z8e_62 (a : BBB) : Nat := (z8e_61 a).length
abbrev z8e_63 (a : BBB) : TruthL := corT (z8e_58 a)
abbrev z8e_64 (a : BBB) : List Int := (z8e_63 a).f
abbrev z8e_65 (a : BBB) : Nat := (z8e_64 a).length
abbrev z8e_66 (a : BBB) (i : Nat) : Int := gD (z8e_64 a) i
abbrev z8e_67 (a : BBB) : List Int := rng (z8e_65 a) fun (i : Nat) => z8e_66 a i
abbrev z8e_68 (a : BBB) : Nat := (z8e_67 a).length
abbrev z8e_69 (a : BBB) : List Int := (z8e_63 a).t
abbrev z8e_70 (a : BBB) : Nat := (z8e_69 a).length
abbrev z8e_71 (a : BBB) (i : Nat) : Int := gD (z8e_69 a) i
abbrev z8e_72 (a : BBB) : List Int := rng (z8e_70 a) fun (i : Nat) => z8e_71 a i
abbrev z8e_73 (a : BBB) : Nat := (z8e_72 a).length
abbrev z8e_74 (a : BBB) (i : Nat) : Int := gD (z8e_61 a) i
abbrev z8e_75 (a : BBB) : List Int := rng (z8e_62 a) fun (i : Nat) => z8e_74 a i
abbrev z8e_76 (a : BBB) : Nat := (z8e_75 a).length
abbrev z8e_77 (a : BBB) : Prop := z8e_76 a = z8e_62 a ∧ (∀ (i : Nat), i < z8e_76 a → gD (z8e_75 a) i = z8e_74 a i) ∧ (z8e_76 a).succ.le (4611686018427387904 : Nat)
abbrev z8e_78 (a : BBB) : Int := IntKind.i64.wrap (z8e_60 a + (1 : Int))
abbrev z8e_79 (a : BBB) : TruthL := TruthL.mk (z8e_67 a) (z8e_72 a)
abbrev z8e_80 (a : BBB) : Int := provE (NPL.mk (z8e_58 a) (z8e_60 a) (z8e_75 a))
abbrev z8e_81 (a : BBB) : Int := provE (NPL.mk (z8e_58 a) (z8e_78 a) (z8e_75 a))
abbrev z8e_82 (a : BBB) : Int := provedM (z8e_58 a) (z8e_75 a)
abbrev z8e_83 (a : BBB) : TruthL := madeTr (z8e_10 a)
abbrev z8e_84 (a : BBB) : List Int := (z8e_83 a).f
abbrev z8e_85 (a : BBB) : List Int := (z8e_83 a).t
abbrev z8e_86 (i : Nat) (a : BBB) : Prop := i < (setT (chN a)).f.length
abbrev z8e_87 (i : Nat) (a : BBB) : Prop := i < (setT (chN a)).t.length
abbrev z8e_88 (a : CK) : Prop := a.k ≤ (6 : Nat) ∧ StmB ((100 : Int) * (↑a.k : Int)) a.s
abbrev z8e_89 (a : BBB) : List Int := rng (chT a).f.length fun (i : Nat) => gD (chT a).f i
abbrev z8e_90 (a : BBB) : Nat := (z8e_89 a).length
abbrev z8e_91 (a : BBB) (i : Nat) : Int := gD (z8e_89 a) i
abbrev z8e_92 (a : BBB) : List Int := rng (chT a).t.length fun (i : Nat) => gD (chT a).t i
abbrev z8e_93 (a : BBB) : Nat := (z8e_92 a).length
abbrev z8e_94 (a : BBB) (i : Nat) : Int := gD (z8e_92 a) i
abbrev z8e_95 (a : CK) : List Int := rng a.s.bs.length fun (i : Nat) => gD a.s.bs i
abbrev z8e_96 (a : CK) : Nat := (z8e_95 a).length
abbrev z8e_97 (a : CK) : Stm := Stm.mk (z8e_95 a) a.s.used a.s.mix
abbrev z8e_98 (a : BBB) : List Int := rng (setT (chN a)).f.length fun (i : Nat) => gD (setT (chN a)).f i
abbrev z8e_99 (a : BBB) : Nat := (z8e_98 a).length
abbrev z8e_100 (a : BBB) (i : Nat) : Int := gD (z8e_98 a) i
abbrev z8e_101 (a : BBB) : List Int := rng (setT (chN a)).t.length fun (i : Nat) => gD (setT (chN a)).t i
abbrev z8e_102 (a : BBB) : Nat := (z8e_101 a).length
abbrev z8e_103 (a : BBB) (i : Nat) : Int := gD (z8e_101 a) i
abbrev z8e_104 (a : BBB) : Prop := (levM (chN a)).length = (levM (chN a)).length
abbrev z8e_105 (a : BBB) : Prop := ∀ (i : Nat), i < (levM (chN a)).length → gD (levM (chN a)) i = gD (levM (chN a)) i
abbrev z8e_106 (a : YS) (a1 : CK) : Prop := (↑a.k : Int) = (↑a1.k : Int)
abbrev z8e_107 (a : BBB) : Prop := (chN a).g.length = (chN a).g.length
abbrev z8e_108 (a : BBB) : Prop := ∀ (i : Nat), i < (chN a).g.length → (gD (chN a).g i).lo = (gD (chN a).g i).lo ∧ (gD (chN a).g i).hi = (gD (chN a).g i).hi
abbrev z8e_109 (a : BBB) : Prop := (chN a).r.length = (chN a).r.length
abbrev z8e_110 (a : BBB) : Prop := ∀ (i : Nat), i < (chN a).r.length → (gD (chN a).r i).fr = (gD (chN a).r i).fr ∧ (gD (chN a).r i).to = (gD (chN a).r i).to ∧ (gD (chN a).r i).sp.lo = (gD (chN a).r i).sp.lo ∧ (gD (chN
 a).r i).sp.hi = (gD (chN a).r i).sp.hi
abbrev z8e_111 (a : BBB) : Prop := (chT a).f.length = (chT a).f.length
abbrev z8e_112 (a : BBB) : Prop := ∀ (i : Nat), i < (chT a).f.length → gD (chT a).f i = gD (chT a).f i
abbrev z8e_113 (a : BBB) : Prop := (chT a).t.length = (chT a).t.length
abbrev z8e_114 (a : BBB) : Prop := ∀ (i : Nat), i < (chT a).t.length → gD (chT a).t i = gD (chT a).t i
abbrev z8e_115 (a : CK) : Stm := nextS (z8e_97 a) (2 : Int)
abbrev z8e_116 (a : CK) : List Int := (z8e_115 a).bs
abbrev z8e_117 (a : YS) (a1 : CK) : Prop := a.s.bs.length = (z8e_116 a1).length
abbrev z8e_118 (a : YS) (a1 : CK) : Prop := ∀ (i : Nat), i < a.s.bs.length → gD a.s.bs i = gD (z8e_116 a1) i
abbrev z8e_119 (a : YS) (a1 : CK) : Prop := a.s.used = (z8e_115 a1).used
abbrev z8e_120 (a : YS) (a1 : CK) : Prop := a.s.mix = (z8e_115 a1).mix
abbrev z8e_121 (a : BBB) : Prop := (setT (chN a)).f.length = (setT (chN a)).f.length
abbrev z8e_122 (a : BBB) : Prop := ∀ (i : Nat), z8e_86 i a → gD (setT (chN a)).f i = gD (setT (chN a)).f i
abbrev z8e_123 (a : BBB) : Prop := (setT (chN a)).t.length = (setT (chN a)).t.length
abbrev z8e_124 (a : BBB) : Prop := ∀ (i : Nat), z8e_87 i a → gD (setT (chN a)).t i = gD (setT (chN a)).t i
abbrev z8e_125 : Prop := (0 : Nat) = (0 : Nat)
abbrev z8e_126 (a : YS) (a1 : BBB) : Prop := a.y.t.length = z8e_102 a1
abbrev z8e_127 (a : CK) : Nat := (6 : Nat) - a.k
abbrev z8e_128 (a : YS) : Int := (100 : Int) * (↑a.k : Int)
abbrev z8e_129 (a : YS) (a1 : CK) (a2 : BBB) : Prop := a.k < (6 : Nat) ∧ (6 : Nat) - a.k = [z8e_127 a1].headD (0 : Nat) ∧ a.m ≤ (3 : Nat) ∧ BalT (chN a2) a.y ((47000000 : Int) - (1000 : Int) * (↑a.m : Int)) ∧ StmB
 (z8e_128 a + (30 : Int) - (2 : Int) * (↑a.m : Int)) a.s
abbrev z8e_130 (a : YS) (a1 : CK) (a2 : BBB) : Prop := z8e_129 a a1 a2 ∧ a.m = (3 : Nat) ∧ StmB (z8e_128 a + (10 : Int)) a.s
abbrev z8e_131 (a : YS) (a1 : BBB) : Prop := a.y.t.length = z8e_93 a1
abbrev z8e_132 : Prop := (4 : Int) = Int.ofNat (4 : Nat)
abbrev z8e_133 (a : YS) : List Int := rng a.s.bs.length fun (i : Nat) => gD a.s.bs i
abbrev z8e_134 (a : YS) : Nat := (z8e_133 a).length
abbrev z8e_135 (a : YS) : Prop := z8e_134 a = a.s.bs.length
abbrev z8e_136 (a : YS) : Prop := ∀ (i : Nat), i < z8e_134 a → gD (z8e_133 a) i = gD a.s.bs i
abbrev z8e_137 (a : YS) : Stm := Stm.mk (z8e_133 a) a.s.used a.s.mix
abbrev z8e_138 (a : YS) : Stm := nextS (z8e_137 a) (4 : Int)
abbrev z8e_139 (a : YS) : List Int := (z8e_138 a).bs
abbrev z8e_140 (a : YS) (a1 : YS) : Prop := a.y.t.length = a1.y.t.length
abbrev z8e_141 (a : YS) : Prop := (0 : Int) ≤ a.s.used
abbrev z8e_142 (a : YS) (a1 : BBB) : Stm := nextS (z8e_137 a) (↑(chN a1).r.length : Int)
abbrev z8e_143 (a : YS) (a1 : BBB) : List Int := (z8e_142 a a1).bs
abbrev z8e_144 (a : YS) (a1 : BBB) : Nat := (z8e_143 a a1).length
abbrev z8e_145 (a : YS) (a1 : BBB) (i : Nat) : Int := gD (z8e_143 a a1) i
abbrev z8e_146 (a : YS) (a1 : BBB) : List Int := rng (z8e_144 a a1) fun (i : Nat) => z8e_145 a a1 i
abbrev z8e_147 (a : YS) (a1 : BBB) : Nat := (z8e_146 a a1).length
abbrev z8e_148 (a : YS) (a1 : BBB) : Int := (z8e_142 a a1).used
abbrev z8e_149 (a : YS) (a1 : BBB) : Int := (z8e_142 a a1).mix
abbrev z8e_150 (a : BBB) : List Span := rng (chN a).g.length fun (i : Nat) => gD (chN a).g i
abbrev z8e_151 (a : BBB) : Nat := (z8e_150 a).length
abbrev z8e_152 (a : BBB) : Prop := z8e_151 a = (chN a).g.length
abbrev z8e_153 (a : BBB) (i : Nat) : Span := gD (z8e_150 a) i
abbrev z8e_154 (a : BBB) : Prop := ∀ (i : Nat), i < z8e_151 a → (z8e_153 a i).lo = (gD (chN a).g i).lo ∧ (z8e_153 a i).hi = (gD (chN a).g i).hi
abbrev z8e_155 (a : BBB) : List Reach := rng (chN a).r.length fun (i : Nat) => gD (chN a).r i
abbrev z8e_156 (a : BBB) : Nat := (z8e_155 a).length
abbrev z8e_157 (a : BBB) : Prop := z8e_156 a = (chN a).r.length
abbrev z8e_158 (a : BBB) (i : Nat) : Reach := gD (z8e_155 a) i
abbrev z8e_159 (a : BBB) (i : Nat) : Span := (z8e_158 a i).sp
abbrev z8e_160 (a : BBB) : Prop := ∀ (i : Nat), i < z8e_156 a → (z8e_158 a i).fr = (gD (chN a).r i).fr ∧ (z8e_158 a i).to = (gD (chN a).r i).to ∧ (z8e_159 a i).lo = (gD (chN a).r i).sp.lo ∧ (z8e_159 a i).hi = (gD (chN
 a).r i).sp.hi
abbrev z8e_161 (a : YS) : List Int := rng a.y.f.length fun (i : Nat) => gD a.y.f i
abbrev z8e_162 (a : YS) : Nat := (z8e_161 a).length
abbrev z8e_163 (a : YS) : List Int := rng a.y.t.length fun (i : Nat) => gD a.y.t i
abbrev z8e_164 (a : YS) : Nat := (z8e_163 a).length
abbrev z8e_165 (j : Nat) : Nat := (0 : Nat) + j
abbrev z8e_166 (a : BBB) : NetL := NetL.mk (z8e_150 a) (z8e_155 a)
abbrev z8e_167 (a : YS) : TruthL := TruthL.mk (z8e_161 a) (z8e_163 a)
abbrev z8e_168 (a : BBB) : List Int := rng (levM (chN a)).length fun (i : Nat) => gD (levM (chN a)) i
abbrev z8e_169 (a : BBB) : Nat := (z8e_168 a).length
abbrev z8e_170 (a : BBB) (i : Nat) : Int := gD (z8e_168 a) i
abbrev z8e_171 (a : YS) (a1 : BBB) : Stm := nextS (z8e_137 a) (↑(z8e_169 a1) : Int)
abbrev z8e_172 (a : YS) (a1 : BBB) : List Int := (z8e_171 a a1).bs
abbrev z8e_173 (a : YS) (a1 : BBB) : Nat := (z8e_172 a a1).length
abbrev z8e_174 (a : YS) (a1 : BBB) (i : Nat) : Int := gD (z8e_172 a a1) i
abbrev z8e_175 (a : YS) (a1 : BBB) : List Int := rng (z8e_173 a a1) fun (i : Nat) => z8e_174 a a1 i
abbrev z8e_176 (a : YS) (a1 : BBB) : Nat := (z8e_175 a a1).length
abbrev z8e_177 (a : YS) (a1 : BBB) : Int := (z8e_171 a a1).used
abbrev z8e_178 (a : YS) (a1 : BBB) : Int := (z8e_171 a a1).mix
abbrev z8e_179 (a : YS) (a1 : BBB) : Int := nextV (z8e_137 a) (↑(z8e_169 a1) : Int)
abbrev z8e_180 (a : YS) (a1 : BBB) : Nat := (0 : Nat) + (z8e_179 a a1).toNat
abbrev z8e_181 (a : YS) (a1 : BBB) : Stm := Stm.mk (z8e_175 a a1) (z8e_177 a a1) (z8e_178 a a1)
abbrev z8e_182 (a : YS) (a1 : BBB) : Stm := witS (z8e_181 a a1) (-1 : Int) (1 : Int)
abbrev z8e_183 (a : YS) (a1 : BBB) : List Int := (z8e_182 a a1).bs
abbrev z8e_184 (a : YS) (a1 : BBB) : Nat := (z8e_183 a a1).length
abbrev z8e_185 (a : YS) (a1 : BBB) (i : Nat) : Int := gD (z8e_183 a a1) i
abbrev z8e_186 (a : YS) (a1 : BBB) : List Int := rng (z8e_184 a a1) fun (i : Nat) => z8e_185 a a1 i
abbrev z8e_187 (a : YS) (a1 : BBB) : Nat := (z8e_186 a a1).length
abbrev z8e_188 (a : YS) (a1 : BBB) : Int := (z8e_182 a a1).used
abbrev z8e_189 (a : YS) (a1 : BBB) : Int := (z8e_182 a a1).mix
abbrev z8e_190 (a : YS) (a1 : BBB) : Stm := Stm.mk (z8e_186 a a1) (z8e_188 a a1) (z8e_189 a a1)
abbrev z8e_191 (a : BBB) (a1 : YS) : Int := IntKind.i64.wrap (setC (chN a) + nextV (z8e_190 a1 a) (4 : Int))
abbrev z8e_192 (i : Nat) (a : YS) (a1 : BBB) : Prop := i = z8e_180 a a1
abbrev z8e_193 (a : YS) (a1 : BBB) : Int := witV (z8e_181 a a1) (-1 : Int) (1 : Int)
abbrev z8e_194 (a : BBB) (a1 : YS) : List Int := rng (z8e_169 a) fun (i : Nat) => bif decide (z8e_192 i a1 a) then z8e_193 a1 a else z8e_170 a i
abbrev z8e_195 (a : BBB) (a1 : YS) : Int := provE (NPL.mk (z8e_166 a) (z8e_191 a a1) (z8e_194 a a1))
abbrev z8e_196 (a : YS) (a1 : BBB) : Stm := nextS (z8e_190 a a1) (4 : Int)
abbrev z8e_197 (a : YS) (a1 : BBB) : List Int := (z8e_196 a a1).bs
abbrev z8e_198 (a : CK) (a1 : BBB) : Prop := ∀ (a_1 : YS), z8e_130 a_1 a a1 → (z8e_132 ∧ z8e_135 a_1 ∧ z8e_136 a_1 ∧ a_1.s.used = a_1.s.used ∧ a_1.s.mix = a_1.s.mix ∧ (a_1.s.used - (0 : Int)).NonNeg) ∧ (∃ (a_3 : YS),
 (setC (chN a1) = setC (chN a1) ∧ z8e_104 a1 ∧ z8e_105 a1 ∧ (↑a_3.k : Int) = (↑a_1.k : Int) ∧ (↑a_3.m : Int) = nextV (z8e_137 a_1) (4 : Int) ∧ z8e_107 a1 ∧ z8e_108 a1 ∧ z8e_109 a1 ∧ z8e_110 a1 ∧ z8e_111 a1 ∧ z8e_112 a1 ∧
 z8e_113 a1 ∧ z8e_114 a1 ∧ a_3.s.bs.length = (z8e_139 a_1).length ∧ (∀ (i : Nat), i < a_3.s.bs.length → gD a_3.s.bs i = gD (z8e_139 a_1) i) ∧ a_3.s.used = (z8e_138 a_1).used ∧ a_3.s.mix = (z8e_138 a_1).mix ∧ z8e_121 a1 ∧
 z8e_122 a1 ∧ z8e_123 a1 ∧ z8e_124 a1 ∧ a_3.y.f.length = a_1.y.f.length ∧ (∀ (i : Nat), i < a_3.y.f.length → gD a_3.y.f i = gD a_1.y.f i) ∧ z8e_125 ∧ z8e_140 a_3 a_1 ∧ z8e_140 a_3 a_1 ∧ ∀ (i : Nat), i < a_3.y.t.length →
 gD a_3.y.t i = gD a_1.y.t i) ∧ z8e_129 a_3 a a1) ∧ ∀ (a_3 : YS), z8e_129 a_3 a a1 → bif bif decide ((↑a_3.m : Int) > (0 : Int)) then decide ((↑(chN a1).r.length : Int) > (0 : Int)) else false then ((↑(chN a1).r.length :
 Int) = (↑(chN a1).r.length : Int) ∧ z8e_135 a_3 ∧ z8e_136 a_3 ∧ a_3.s.used = a_3.s.used ∧ a_3.s.mix = a_3.s.mix ∧ z8e_141 a_3 ∧ (-30 : Int) = Int.negSucc (29 : Nat) ∧ (30 : Int) = Int.ofNat (30 : Nat) ∧ z8e_147 a_3 a1 =
 z8e_144 a_3 a1 ∧ (∀ (i : Nat), i < z8e_147 a_3 a1 → gD (z8e_146 a_3 a1) i = z8e_145 a_3 a1 i) ∧ z8e_148 a_3 a1 = z8e_148 a_3 a1 ∧ z8e_149 a_3 a1 = z8e_149 a_3 a1 ∧ (z8e_148 a_3 a1 - (0 : Int)).NonNeg) ∧ False else
 (z8e_152 a1 ∧ z8e_154 a1 ∧ z8e_157 a1 ∧ z8e_160 a1 ∧ z8e_162 a_3 = a_3.y.f.length ∧ (∀ (i : Nat), i < z8e_162 a_3 → gD (z8e_161 a_3) i = gD a_3.y.f i) ∧ z8e_164 a_3 = a_3.y.t.length ∧ (0 : Nat) + a_3.y.t.length ≤
 a_3.y.t.length ∧ (∀ (j : Nat), j < z8e_164 a_3 → gD (z8e_163 a_3) j = gD a_3.y.t (z8e_165 j)) ∧ (z8e_151 a1 ≤ (1000000 : Nat) ∧ z8e_156 a1 ≤ (1000000 : Nat)) ∧ z8e_162 a_3 ≤ (1000000 : Nat) ∧ z8e_164 a_3 ≤ (1000000 :
 Nat)) ∧ bif bif costE (z8e_166 a1) (z8e_167 a_3) != (0 : Int) then true else decide (costV (z8e_166 a1) (z8e_167 a_3) < setC (chN a1)) then true = false else (z8e_169 a1 = (levM (chN a1)).length ∧ (∀ (i : Nat), i <
 z8e_169 a1 → z8e_170 a1 i = gD (levM (chN a1)) i) ∧ (0 : Nat) < z8e_169 a1 ∧ z8e_169 a1 ≤ (1000 : Nat)) ∧ ((↑(z8e_169 a1) : Int) = (↑(z8e_169 a1) : Int) ∧ z8e_135 a_3 ∧ z8e_136 a_3 ∧ a_3.s.used = a_3.s.used ∧ a_3.s.mix =
 a_3.s.mix ∧ z8e_141 a_3 ∧ (-1 : Int) = Int.negSucc (0 : Nat) ∧ (1 : Int) = Int.ofNat (1 : Nat) ∧ z8e_176 a_3 a1 = z8e_173 a_3 a1 ∧ (∀ (i : Nat), i < z8e_176 a_3 a1 → gD (z8e_175 a_3 a1) i = z8e_174 a_3 a1 i) ∧ z8e_177
 a_3 a1 = z8e_177 a_3 a1 ∧ z8e_178 a_3 a1 = z8e_178 a_3 a1 ∧ (0 : Int) ≤ z8e_177 a_3 a1 ∧ ((0 : Int) ≤ z8e_179 a_3 a1 ∧ z8e_179 a_3 a1 < (↑(z8e_169 a1) : Int)) ∧ (z8e_180 a_3 a1).succ.le (z8e_169 a1)) ∧ (z8e_132 ∧ z8e_187
 a_3 a1 = z8e_184 a_3 a1 ∧ (∀ (i : Nat), i < z8e_187 a_3 a1 → gD (z8e_186 a_3 a1) i = z8e_185 a_3 a1 i) ∧ z8e_188 a_3 a1 = z8e_188 a_3 a1 ∧ z8e_189 a_3 a1 = z8e_189 a_3 a1 ∧ (z8e_188 a_3 a1 - (0 : Int)).NonNeg) ∧ (z8e_152
 a1 ∧ z8e_154 a1 ∧ z8e_157 a1 ∧ z8e_160 a1 ∧ z8e_191 a1 a_3 = z8e_191 a1 a_3 ∧ (z8e_194 a1 a_3).length = z8e_169 a1 ∧ (0 : Nat) + z8e_169 a1 ≤ z8e_169 a1 ∧ (∀ (j : Nat), j < (rng (z8e_169 a1) fun (i : Nat) => bif decide
 (z8e_192 i a_3 a1) then z8e_193 a_3 a1 else z8e_170 a1 i).length → gD (z8e_194 a1 a_3) j = bif decide (z8e_165 j = z8e_180 a_3 a1) then z8e_193 a_3 a1 else gD (z8e_168 a1) (z8e_165 j)) ∧ (rng (z8e_169 a1) fun (i : Nat)
 => bif decide (z8e_192 i a_3 a1) then z8e_193 a_3 a1 else z8e_170 a1 i).length.succ.le (4611686018427387904 : Nat)) ∧ bif bif bif z8e_195 a1 a_3 != (0 : Int) then z8e_195 a1 a_3 != (2 : Int) else false then true else bif
 decide (z8e_195 a1 a_3 = (0 : Int)) && decide (z8e_191 a1 a_3 ≤ provedM (z8e_166 a1) (z8e_194 a1 a_3)) then decide (z8e_191 a1 a_3 > setC (chN a1)) else false then true = false else ∃ (a_5 : CK), (setC (chN a1) = setC
 (chN a1) ∧ z8e_104 a1 ∧ z8e_105 a1 ∧ (↑a_5.k : Int) = IntKind.i64.wrap ((↑a_3.k : Int) + (1 : Int)) ∧ z8e_107 a1 ∧ z8e_108 a1 ∧ z8e_109 a1 ∧ z8e_110 a1 ∧ z8e_111 a1 ∧ z8e_112 a1 ∧ z8e_113 a1 ∧ z8e_114 a1 ∧
 a_5.s.bs.length = (z8e_197 a_3 a1).length ∧ (∀ (i : Nat), i < a_5.s.bs.length → gD a_5.s.bs i = gD (z8e_197 a_3 a1) i) ∧ a_5.s.used = (z8e_196 a_3 a1).used ∧ a_5.s.mix = (z8e_196 a_3 a1).mix ∧ z8e_121 a1 ∧ z8e_122 a1 ∧
 z8e_123 a1 ∧ z8e_124 a1) ∧ z8e_88 a_5 ∧ z8e_127 a_5 < z8e_127 a
theorem vc8e (a : BBB) : (V8e a) = ((z8e_1 a = a.a.length ∧ (∀ (i : Nat), i < z8e_1 a → z8e_2 a i = gD a.a i) ∧ (7 : Int) = Int.ofNat (7 : Nat) ∧ z8e_4 a = z8e_1 a ∧ (∀ (i : Nat), i < z8e_4 a → gD (z8e_3 a) i = z8e_2 a
 i) ∧ z8e_5 ∧ z8e_5 ∧ StmB (1000000000 : Int) (z8e_6 a) ∧ (1 : Int) ≤ (7 : Int) ∧ (7 : Int) ≤ (8 : Int)) ∧ (z8e_8 a = a.b.length ∧ (∀ (i : Nat), i < z8e_8 a → z8e_9 a i = gD a.b i) ∧ z8e_16 a = z8e_13 a ∧ (∀ (i : Nat), i
 < z8e_16 a → (z8e_17 a i).lo = (z8e_14 a i).lo ∧ (z8e_17 a i).hi = (z8e_14 a i).hi) ∧ z8e_22 a = z8e_19 a ∧ (∀ (i : Nat), i < z8e_22 a → (z8e_23 a i).fr = (z8e_20 a i).fr ∧ (z8e_23 a i).to = (z8e_20 a i).to ∧ (z8e_24 a
 i).lo = (z8e_25 a i).lo ∧ (z8e_24 a i).hi = (z8e_25 a i).hi) ∧ z8e_27 a = z8e_8 a ∧ (∀ (i : Nat), i < z8e_27 a → gD (z8e_26 a) i = z8e_9 a i) ∧ z8e_5 ∧ z8e_5 ∧ StmB (1000000000 : Int) (z8e_28 a) ∧ z8e_16 a ≤ (1000 : Nat)
 ∧ (z8e_22 a).le (1000 : Nat)) ∧ (z8e_30 a = a.c.length ∧ ∀ (i : Nat), i < z8e_30 a → z8e_31 a i = gD a.c i) ∧ z8e_57 a ∧ z8e_57 a ∧ z8e_57 a ∧ bif bif bif bif bif bif bif z8e_59 a then true else z8e_59 a then true else
 z8e_59 a then true else !agrM (z8e_58 a) == (z8e_60 a == (0 : Int)) then true else decide (z8e_60 a < (0 : Int)) then true else (↑(z8e_62 a) : Int) != (↑(z8e_34 a) : Int) then true else (↑(z8e_65 a) : Int) != (↑(z8e_44
 a) : Int) then true = false else (z8e_38 a ∧ z8e_42 a ∧ z8e_48 a ∧ z8e_56 a ∧ z8e_68 a = z8e_65 a ∧ (∀ (i : Nat), i < z8e_68 a → gD (z8e_67 a) i = z8e_66 a i) ∧ z8e_73 a = z8e_70 a ∧ (∀ (i : Nat), i < z8e_73 a → gD
 (z8e_72 a) i = z8e_71 a i) ∧ (z8e_37 a ≤ (1000000 : Nat) ∧ z8e_47 a ≤ (1000000 : Nat)) ∧ z8e_68 a ≤ (1000000 : Nat) ∧ z8e_73 a ≤ (1000000 : Nat)) ∧ (z8e_38 a ∧ z8e_42 a ∧ z8e_48 a ∧ z8e_56 a ∧ z8e_60 a = z8e_60 a ∧
 z8e_77 a) ∧ (z8e_38 a ∧ z8e_42 a ∧ z8e_48 a ∧ z8e_56 a ∧ z8e_78 a = z8e_78 a ∧ z8e_77 a) ∧ bif bif bif bif bif bif costE (z8e_58 a) (z8e_79 a) != (0 : Int) then true else z8e_80 a != (0 : Int) then true else z8e_81 a !=
 (0 : Int) then true else costV (z8e_58 a) (z8e_79 a) != z8e_60 a then true else !(decide (z8e_80 a = (0 : Int)) && decide (z8e_60 a ≤ z8e_82 a)) then true else decide (z8e_81 a = (0 : Int)) && decide (z8e_78 a ≤ z8e_82
 a) then true = false else (∃ (a_1 : CK), (setC (chN a) = z8e_60 a ∧ (levM (chN a)).length = z8e_62 a ∧ (∀ (i : Nat), i < (levM (chN a)).length → gD (levM (chN a)) i = z8e_74 a i) ∧ (↑a_1.k : Int) = (0 : Int) ∧ (chN
 a).g.length = z8e_34 a ∧ (∀ (i : Nat), i < (chN a).g.length → (gD (chN a).g i).lo = z8e_40 a i ∧ (gD (chN a).g i).hi = z8e_41 a i) ∧ (chN a).r.length = z8e_44 a ∧ (∀ (i : Nat), i < (chN a).r.length → (gD (chN a).r i).fr
 = z8e_50 a i ∧ (gD (chN a).r i).to = z8e_51 a i ∧ (gD (chN a).r i).sp.lo = z8e_54 a i ∧ (gD (chN a).r i).sp.hi = z8e_55 a i) ∧ (chT a).f.length = (z8e_84 a).length ∧ (∀ (i : Nat), i < (chT a).f.length → gD (chT a).f i =
 gD (z8e_84 a) i) ∧ (chT a).t.length = (z8e_85 a).length ∧ (∀ (i : Nat), i < (chT a).t.length → gD (chT a).t i = gD (z8e_85 a) i) ∧ a_1.s.bs.length = z8e_30 a ∧ (∀ (i : Nat), i < a_1.s.bs.length → gD a_1.s.bs i = z8e_31 a
 i) ∧ a_1.s.used = (0 : Int) ∧ a_1.s.mix = (0 : Int) ∧ (setT (chN a)).f.length = z8e_65 a ∧ (∀ (i : Nat), z8e_86 i a → gD (setT (chN a)).f i = z8e_66 a i) ∧ (setT (chN a)).t.length = z8e_70 a ∧ ∀ (i : Nat), z8e_87 i a →
 gD (setT (chN a)).t i = z8e_71 a i) ∧ z8e_88 a_1) ∧ ∀ (a_1 : CK), z8e_88 a_1 → bif decide ((↑a_1.k : Int) < (6 : Int)) then (z8e_90 a = (chT a).f.length ∧ (∀ (i : Nat), i < z8e_90 a → z8e_91 a i = gD (chT a).f i) ∧
 z8e_90 a ≤ (1000000 : Nat) ∧ z8e_93 a = (chT a).t.length ∧ (∀ (i : Nat), i < z8e_93 a → z8e_94 a i = gD (chT a).t i) ∧ (0 : Nat) < z8e_93 a ∧ z8e_93 a ≤ (1000 : Nat)) ∧ (((2 : Int) = Int.ofNat (2 : Nat) ∧ z8e_96 a_1 =
 a_1.s.bs.length ∧ (∀ (i : Nat), i < z8e_96 a_1 → gD (z8e_95 a_1) i = gD a_1.s.bs i) ∧ a_1.s.used = a_1.s.used ∧ a_1.s.mix = a_1.s.mix ∧ (a_1.s.used - (0 : Int)).NonNeg) ∧ bif nextV (z8e_97 a_1) (2 : Int) == (0 : Int)
 then (z8e_99 a = (setT (chN a)).f.length ∧ (∀ (i : Nat), i < z8e_99 a → z8e_100 a i = gD (setT (chN a)).f i) ∧ z8e_99 a ≤ (1000000 : Nat) ∧ z8e_102 a = (setT (chN a)).t.length ∧ (∀ (i : Nat), i < z8e_102 a → z8e_103 a i
 = gD (setT (chN a)).t i) ∧ (0 : Nat) < z8e_102 a ∧ z8e_102 a ≤ (1000 : Nat)) ∧ ∃ (a_3 : YS), (setC (chN a) = setC (chN a) ∧ z8e_104 a ∧ z8e_105 a ∧ z8e_106 a_3 a_1 ∧ z8e_107 a ∧ z8e_108 a ∧ z8e_109 a ∧ z8e_110 a ∧
 z8e_111 a ∧ z8e_112 a ∧ z8e_113 a ∧ z8e_114 a ∧ z8e_117 a_3 a_1 ∧ z8e_118 a_3 a_1 ∧ z8e_119 a_3 a_1 ∧ z8e_120 a_3 a_1 ∧ z8e_121 a ∧ z8e_122 a ∧ z8e_123 a ∧ z8e_124 a ∧ a_3.y.f.length = z8e_99 a ∧ (∀ (i : Nat), i <
 a_3.y.f.length → gD a_3.y.f i = z8e_100 a i) ∧ z8e_125 ∧ z8e_126 a_3 a ∧ z8e_126 a_3 a ∧ ∀ (i : Nat), i < a_3.y.t.length → gD a_3.y.t i = z8e_103 a i) ∧ z8e_130 a_3 a_1 a else ∃ (a_3 : YS), (setC (chN a) = setC (chN a) ∧
 z8e_104 a ∧ z8e_105 a ∧ z8e_106 a_3 a_1 ∧ z8e_107 a ∧ z8e_108 a ∧ z8e_109 a ∧ z8e_110 a ∧ z8e_111 a ∧ z8e_112 a ∧ z8e_113 a ∧ z8e_114 a ∧ z8e_117 a_3 a_1 ∧ z8e_118 a_3 a_1 ∧ z8e_119 a_3 a_1 ∧ z8e_120 a_3 a_1 ∧ z8e_121 a
 ∧ z8e_122 a ∧ z8e_123 a ∧ z8e_124 a ∧ a_3.y.f.length = z8e_90 a ∧ (∀ (i : Nat), i < a_3.y.f.length → gD a_3.y.f i = z8e_91 a i) ∧ z8e_125 ∧ z8e_131 a_3 a ∧ z8e_131 a_3 a ∧ ∀ (i : Nat), i < a_3.y.t.length → gD a_3.y.t i =
 z8e_94 a i) ∧ z8e_130 a_3 a_1 a) ∧ z8e_198 a_1 a ∧ z8e_198 a_1 a else true = true) := by kernel_rfl
theorem chIn_meas (a : BBB) (e : Bool) (gs : List Nat) (l : List (Nat × Nat)) (s : YS) : (chIn a e gs l).meas s = s.m := rfl
theorem ch1 (a : BBB) : spoN (SNet.mk (Stm.mk a.b 0 0) (madeN (SN.mk (Stm.mk a.a 0 0) 7))) = chN a := rfl
theorem ch2 (a : BBB) : madeTr (SN.mk (Stm.mk a.a 0 0) 7) = chT a := rfl
theorem ch_try {N : NetL} (hc : checkL N = 0) (lv : List Int) (p : Int) : (bif bif provE ⟨N, p, lv⟩ != 0 then provE ⟨N, p, lv⟩ != 2 else false then true else bif decide (provE ⟨N, p, lv⟩ = 0) && decide (p ≤ provedM N lv) then decide (p > setC N) else false) = false := by
  have h1 : (bif provE ⟨N, p, lv⟩ != 0 then provE ⟨N, p, lv⟩ != 2 else false) = false := by
    rcases prov_err hc lv p with e | e <;> rw [e] <;> rfl
  rw [h1]
  by_cases hp : setC N < p
  · rw [prov_try hc lv hp]; rfl
  · rw [decide_eq_false (show ¬ p > setC N by omega)]
    cases decide (provE ⟨N, p, lv⟩ = 0) && decide (p ≤ provedM N lv) <;> rfl
theorem ch_cost {N : NetL} {y : TruthL} {B : Int} (hc : checkL N = 0) (h : BalT N y B) (hB : B ≤ 100000000) : (bif costE N y != 0 then true else decide (costV N y < setC N)) = false := by
  obtain ⟨w1, w2, w3, _⟩ := h.vals hc hB
  rw [w1, w2, decide_eq_false (show ¬ costM N y < setC N by omega)]; rfl
theorem BalT.mono {N : NetL} {T : TruthL} {B C : Int} (h : BalT N T B) (hB : B ≤ C) : BalT N T C :=
  ⟨h.f, h.t, fun i hi => by have := h.fb i hi; omega, fun i hi => by have := h.tb i hi; omega, h.bal⟩
set_option maxHeartbeats 1000000 in
theorem p8 (a : BBB) (h1 : ByOk a.a) (h2 : ByOk a.b) (h3 : ByOk a.c) (hr : (chN a).r.length ≠ 0) : V8 a := by
  have hm : Made (mkN a.a 7) (chT a) 7 := mk_ok h1 (by omega)
  have hs : Spoilt (mkN a.a 7) (chN a) := spo_ok (stm0 h2) (by omega) hm (by omega)
  have hc : checkL (chN a) = 0 := check_good hs.good
  have hb := set_balT hc
  obtain ⟨v1, v2, v3, v4, v5, v6, v7⟩ := cor_vals hc
  obtain ⟨w1, w2, w3, w4⟩ := hb.vals hc (by omega)
  have w5 : costM (chN a) (setT (chN a)) = setC (chN a) := (setT_ok hc).2.2
  obtain ⟨l1, l2⟩ := levM_ok hc
  have hbd := setC_bd hc
  have u1 : ∀ p, provE ⟨chN a, p, levM (chN a)⟩ = 0 := fun p => by unfold provE; simp only; rw [if_pos hc, if_pos l1]
  have u2 : IntKind.i64.wrap (setC (chN a) + 1) = setC (chN a) + 1 := w64 (by omega) (by omega)
  have u3 : decide (setC (chN a) ≤ provedM (chN a) (levM (chN a))) = true := by rw [l2]; exact decide_eq_true (Int.le_refl _)
  have u4 : decide (setC (chN a) + 1 ≤ provedM (chN a) (levM (chN a))) = false := by rw [l2]; exact decide_eq_false (by omega)
  rw [vc8]; delta z8_0 z8_1 z8_2 z8_3 z8_4 z8_5 z8_6 z8_7 z8_8 z8_9 z8_10 z8_11 z8_12 z8_13 z8_14 z8_15 z8_16 z8_17 z8_18 z8_19 z8_20 z8_21 z8_22 z8_23 z8_24 z8_25 z8_26 z8_27 z8_28 z8_29 z8_30 z8_31 z8_32 z8_33 z8_34 z8_35 z8_36 z8_37 z8_38 z8_39 z8_40 z8_41 z8_42 z8_43 z8_44 z8_45 z8_46 z8_47 z8_48 z8_49 z8_50 z8_51 z8_52 z8_53 z8_54 z8_55 z8_56 z8_57 z8_58 z8_59 z8_60 z8_61 z8_62 z8_63 z8_64 z8_65 z8_66 z8_67 z8_68 z8_69 z8_70 z8_71 z8_72 z8_73 z8_74 z8_75 z8_76 z8_77 z8_78 z8_79 z8_80 z8_81 z8_82 z8_83 z8_84 z8_85 z8_86 z8_87 z8_88 z8_89 z8_90 z8_91 z8_92 z8_93 z8_94 z8_95 z8_96 z8_97 z8_98 z8_99 z8_100 z8_101 z8_102 z8_103 z8_104 z8_105 z8_106 z8_107 z8_108 z8_109 z8_110 z8_111 z8_112 z8_113 z8_114 z8_115 z8_116 z8_117 z8_118 z8_119 z8_120 z8_121 z8_122 z8_123 z8_124 z8_125 z8_126 z8_127 z8_128 z8_129 z8_130 z8_131 z8_132 z8_133 z8_134 z8_135 z8_136 z8_137 z8_138 z8_139 z8_140 z8_141 z8_142 z8_143 z8_144 z8_145 z8_146 z8_147 z8_148 z8_149 z8_150 z8_151 z8_152 z8_153 z8_154 z8_155 z8_156 z8_157 z8_158 z8_159 z8_160 z8_161 z8_162 z8_163 z8_164 z8_165 z8_166 z8_167 z8_168 z8_169 z8_170 z8_171 z8_172 z8_173 z8_174 z8_175 z8_176 z8_177 z8_178 z8_179 z8_180 z8_181 z8_182 z8_183 z8_184 z8_185 z8_186 z8_187 z8_188 z8_189 z8_190 z8_191 z8_192 z8_193 z8_194 z8_195 z8_196 z8_197 z8_198 z8_199 z8_200 z8_201 z8_202 z8_203 z8_204 z8_205 z8_206 z8_207 z8_208 z8_209 z8_210 z8_211 z8_212 z8_213 z8_214 z8_215 z8_216 z8_217 z8_218 z8_219 z8_220 z8_221 z8_222; simp only [condP, eq_self, implies_true, and_self, true_and, and_true, true_implies, forall_const, decide_eq_true_eq, decide_eq_false_iff_not, Int.toNat_natCast, dSpan_eSpan, dReach_eReach, dWay_eWay, dStep_eStep, dFar_eFar, dInt_eInt, Nat.zero_add, Int.zero_sub, Nat.le_eq, Nat.succ_eq_add_one, Nat.add_one_le_iff, Bool.not_eq_true', Bool.not_eq_false', rng_length, dSpan_mk, dReach_mk, dWay_mk, dStep_mk, dFar_mk, rng_getD, DL.m2, DL.d1, DL.d2, DL.d7, DL.d8, ch1, ch2, v1, v2, v3, v4, chIn_meas]
  simp only [hc, v5, v6, v7, w1, w2, w5, u1, u2, u3, u4, ch_try hc, decide_true, Bool.true_and, bne_self_eq_false, cond_false, cond_true, Bool.not_true, Bool.false_eq_true, false_implies, true_implies, BEq.rfl, implies_true, true_and, and_true, and_self]
  have hg := hs.good
  have hT : BalT (chN a) (chT a) 46000000 := ⟨by rw [hm.fl, hs.len], by rw [hm.tl, hs.g], fun i hi => by have := (hm.r i (by have := hm.fl; omega)).2.1; omega, fun i hi => by have := (hm.t i (by have := hm.tl; omega)).1; omega, fun q hq => by
    rw [bal_ends hs.len hs.ends]; exact hm.bal q (by rw [← hs.g]; exact hq)⟩
  have z0 : (mkN a.a 7).g.length ≤ 7 := by have := hm.gm; omega
  have z1 := hg.g1
  have z2 := hg.g8
  have z3 := hg.r14
  have z4 := hT.f
  have z5 := hT.t
  have st1 := stm0 h1
  have st2 := stm0 h2
  have st3 := stm0 h3
  have hdec : (bif bif bif !decide (setC (chN a) = 0) == (setC (chN a) == 0) then true else decide (setC (chN a) < 0) then true else false then true else false) = false := by
    rw [decide_eq_false (show ¬ setC (chN a) < 0 by omega)]
    by_cases h : setC (chN a) = 0
    · rw [h]; rfl
    · rw [decide_eq_false h, beq_eq_false_iff_ne.2 h]; rfl
  refine ⟨⟨rfl, st1.mono (by omega), by omega, by omega⟩, ⟨st2.mono (by omega), by show (mkN a.a 7).g.length ≤ _; omega, by show (mkN a.a 7).r.length ≤ _; have := hm.r11; omega⟩, fun h => (by rw [hdec] at h; cases h), fun _ => ⟨⟨⟨by omega, by omega⟩, by omega, by omega⟩, by omega, by omega, ⟨⟨⟨a.c, 0, 0⟩, 0⟩, ⟨rfl, rfl, fun _ _ => rfl, rfl, rfl⟩, Nat.zero_le _, st3.mono (by simp only; omega)⟩, fun c ⟨ck, cs⟩ clt => ⟨⟨⟨by omega, by omega⟩, by omega, by omega⟩, ⟨⟨rfl, cs.used.1⟩, fun hb2 => ⟨⟨⟨by omega, by omega⟩, by omega, by omega⟩, ⟨⟨nextS c.s 2, setT (chN a), 3, c.k⟩, ⟨rfl, rfl, fun _ _ => rfl, rfl, rfl, v6, v7, v6, fun _ _ => rfl, v7, fun _ _ => rfl⟩, ⟨by simp only; omega, rfl, Nat.le_refl _, hb.mono (by simp only; omega), (cs.next (by omega) 2).mono (by simp only; omega)⟩, rfl, (cs.next (by omega) 2).mono (by simp only; omega)⟩⟩, fun hb2 => ⟨⟨nextS c.s 2, chT a, 3, c.k⟩, ⟨rfl, rfl, fun _ _ => rfl, rfl, rfl, rfl, rfl, rfl, fun _ _ => rfl, rfl, fun _ _ => rfl⟩, ⟨by simp only; omega, rfl, Nat.le_refl _, hT.mono (by simp only; omega), (cs.next (by omega) 2).mono (by simp only; omega)⟩, rfl, (cs.next (by omega) 2).mono (by simp only; omega)⟩⟩, fun y ⟨⟨y1, y2, y3, y4, y5'⟩, y6, y5⟩ => ⟨⟨rfl, y5.used.1⟩, ?en, fun x ⟨x1, x2, x3, x4, x5⟩ => ⟨fun hc2 => ?go, fun _ => ?out⟩⟩⟩⟩⟩
  case en =>
    have hm4 := nextV_in y5 (by omega) 4
    have hm5 := hm4.2 (by omega)
    exact ⟨⟨nextS y.s 4, y.y, (nextV y.s 4).toNat, y.k⟩, ⟨rfl, by simp only; omega, rfl, fun _ _ => rfl, rfl, rfl, rfl, rfl, rfl, fun _ _ => rfl, rfl, fun _ _ => rfl⟩, y1, y2, by simp only; omega, y4.mono (by simp only; omega), (y5.next (by omega) 4).mono (by simp only; omega)⟩
  case go =>
    have hc2 := and_b.1 hc2
    have m0 : 0 < x.m := by have := of_decide_eq_true hc2.1; omega
    have i0 := nextV_in x5 (by omega) ((chN a).r.length : Int)
    have i1 := i0.2 (by omega)
    have t1 := x5.next (by omega) ((chN a).r.length : Int)
    have t2 := t1.next (by omega) (witN (-30) 30)
    have hd := witV_in t1 (by omega) (lo := -30) (hi := 30) (by omega) (by omega) (by omega)
    have xf := x4.f
    have xt := x4.t
    have hi : (nextV x.s (chN a).r.length).toNat < (chN a).r.length := by omega
    obtain ⟨_, f1, f2, f3⟩ := hg.r _ hi
    have hR := round_ok hc x4 (by omega) hi hd
    refine ⟨⟨x5.used.1, rfl, rfl, t1.used.1⟩, ⟨⟨by omega, by omega⟩, by omega, ⟨by omega, by omega⟩, by omega⟩, ⟨⟨by omega, by omega⟩, ⟨by omega, by omega⟩, by omega, ⟨by omega, by omega⟩, by omega⟩, ⟨⟨by omega, by omega⟩, ⟨by omega, by omega⟩, by omega, ⟨by omega, by omega⟩, by omega⟩, ⟨witS (nextS x.s (chN a).r.length) (-30) 30, roundT (chN a) x.y (nextV x.s (chN a).r.length).toNat (witV (nextS x.s (chN a).r.length) (-30) 30), x.m - 1, x.k⟩, ⟨rfl, ?_, rfl, fun _ _ => rfl, rfl, rfl, by simp [roundT], by simp [roundT], by simp [roundT], fun i hi' => ?_, by simp [roundT], fun i hi' => ?_⟩, ⟨x1, x2, by simp only; omega, hR.mono (by simp only; omega), t2.mono (by simp only; omega)⟩, by simp only; omega⟩
    · show ((x.m - 1 : Nat) : Int) = IntKind.i64.wrap ((x.m : Int) - 1)
      rw [w64 (by omega) (by omega)]; omega
    · show gD (x.y.f.modify _ _) i = _
      rw [gD_modify (by omega)]
      by_cases he : i = (nextV x.s (chN a).r.length).toNat
      · rw [if_pos he, decide_eq_true he]; rfl
      · rw [if_neg he, decide_eq_false he]; rfl
    · show gD ((x.y.t.modify _ _).modify _ _) i = _
      rw [gD_modify (by rw [List.length_modify]; omega), gD_modify (by omega), gD_modify (by omega)]
      have hne : ¬ (gD (chN a).r (nextV x.s (chN a).r.length).toNat).to.toNat = (gD (chN a).r (nextV x.s (chN a).r.length).toNat).fr.toNat := by omega
      rw [decide_eq_false hne, if_neg hne]
      by_cases he : i = (gD (chN a).r (nextV x.s (chN a).r.length).toNat).to.toNat
      · rw [if_pos he, decide_eq_true he]; rfl
      · rw [if_neg he, decide_eq_false he]
        by_cases he2 : i = (gD (chN a).r (nextV x.s (chN a).r.length).toNat).fr.toNat
        · rw [if_pos he2, decide_eq_true he2]; rfl
        · rw [if_neg he2, decide_eq_false he2]; rfl
  case out =>
    have i0 := nextV_in x5 (by omega) ((chN a).g.length : Int)
    have i1 := i0.2 (by omega)
    have t1 := x5.next (by omega) ((chN a).g.length : Int)
    have t2 := t1.next (by omega) (witN (-1) 1)
    have t3 := t2.next (by omega) 4
    have xf := x4.f
    have xt := x4.t
    have y2' : 6 - y.k = 6 - c.k := y2
    have x2' : 6 - x.k = 6 - c.k := x2
    have t4 : StmB (100 * ((x.k + 1 : Nat) : Int)) (nextS (witS (nextS x.s (chN a).g.length) (-1) 1) 4) := t3.mono (by clear i0 i1 hbd; omega)
    generalize nextV x.s ((chN a).g.length : Int) = q at *
    have d1 : x.k + 1 ≤ 6 := by clear hbd; omega
    have d2 : 6 - (x.k + 1) < 6 - c.k := by clear hbd; omega
    rw [ch_cost hc x4 (by omega)]
    exact ⟨⟨Nat.le_refl _, Nat.le_refl _, ⟨by omega, by omega⟩, by omega, by omega⟩, fun h => (by cases h), fun _ => ⟨⟨by omega, by omega⟩, ⟨x5.used.1, rfl, rfl, t1.used.1, ⟨by omega, by omega⟩, by omega⟩, ⟨rfl, t2.used.1⟩, ⟨Nat.le_refl _, fun j hj => (by rw [rng_get _ _ _ hj]), by omega⟩, ⟨nextS (witS (nextS x.s (chN a).g.length) (-1) 1) 4, x.k + 1⟩, ⟨(wsucc (by omega)).symm, rfl, fun _ _ => rfl, rfl, rfl⟩, ⟨d1, t4⟩, d2⟩⟩
set_option maxHeartbeats 1000000 in
theorem p8e (a : BBB) (h1 : ByOk a.a) (h2 : ByOk a.b) (h3 : ByOk a.c) (hr : (chN a).r.length = 0) : V8e a := by
  have hm : Made (mkN a.a 7) (chT a) 7 := mk_ok h1 (by omega)
  have hs : Spoilt (mkN a.a 7) (chN a) := spo_ok (stm0 h2) (by omega) hm (by omega)
  have hc : checkL (chN a) = 0 := check_good hs.good
  have hb := set_balT hc
  obtain ⟨v1, v2, v3, v4, v5, v6, v7⟩ := cor_vals hc
  obtain ⟨w1, w2, w3, w4⟩ := hb.vals hc (by omega)
  have w5 : costM (chN a) (setT (chN a)) = setC (chN a) := (setT_ok hc).2.2
  obtain ⟨l1, l2⟩ := levM_ok hc
  have hbd := setC_bd hc
  have u1 : ∀ p, provE ⟨chN a, p, levM (chN a)⟩ = 0 := fun p => by unfold provE; simp only; rw [if_pos hc, if_pos l1]
  have u2 : IntKind.i64.wrap (setC (chN a) + 1) = setC (chN a) + 1 := w64 (by omega) (by omega)
  have u3 : decide (setC (chN a) ≤ provedM (chN a) (levM (chN a))) = true := by rw [l2]; exact decide_eq_true (Int.le_refl _)
  have u4 : decide (setC (chN a) + 1 ≤ provedM (chN a) (levM (chN a))) = false := by rw [l2]; exact decide_eq_false (by omega)
  rw [vc8e]; delta z8e_0 z8e_1 z8e_2 z8e_3 z8e_4 z8e_5 z8e_6 z8e_7 z8e_8 z8e_9 z8e_10 z8e_11 z8e_12 z8e_13 z8e_14 z8e_15 z8e_16 z8e_17 z8e_18 z8e_19 z8e_20 z8e_21 z8e_22 z8e_23 z8e_24 z8e_25 z8e_26 z8e_27 z8e_28 z8e_29 z8e_30 z8e_31 z8e_32 z8e_33 z8e_34 z8e_35 z8e_36 z8e_37 z8e_38 z8e_39 z8e_40 z8e_41 z8e_42 z8e_43 z8e_44 z8e_45 z8e_46 z8e_47 z8e_48 z8e_49 z8e_50 z8e_51 z8e_52 z8e_53 z8e_54 z8e_55 z8e_56 z8e_57 z8e_58 z8e_59 z8e_60 z8e_61 z8e_62 z8e_63 z8e_64 z8e_65 z8e_66 z8e_67 z8e_68 z8e_69 z8e_70 z8e_71 z8e_72 z8e_73 z8e_74 z8e_75 z8e_76 z8e_77 z8e_78 z8e_79 z8e_80 z8e_81 z8e_82 z8e_83 z8e_84 z8e_85 z8e_86 z8e_87 z8e_88 z8e_89 z8e_90 z8e_91 z8e_92 z8e_93 z8e_94 z8e_95 z8e_96 z8e_97 z8e_98 z8e_99 z8e_100 z8e_101 z8e_102 z8e_103 z8e_104 z8e_105 z8e_106 z8e_107 z8e_108 z8e_109 z8e_110 z8e_111 z8e_112 z8e_113 z8e_114 z8e_115 z8e_116 z8e_117 z8e_118 z8e_119 z8e_120 z8e_121 z8e_122 z8e_123 z8e_124 z8e_125 z8e_126 z8e_127 z8e_128 z8e_129 z8e_130 z8e_131 z8e_132 z8e_133 z8e_134 z8e_135 z8e_136 z8e_137 z8e_138 z8e_139 z8e_140 z8e_141 z8e_142 z8e_143 z8e_144 z8e_145 z8e_146 z8e_147 z8e_148 z8e_149 z8e_150 z8e_151 z8e_152 z8e_153 z8e_154 z8e_155 z8e_156 z8e_157 z8e_158 z8e_159 z8e_160 z8e_161 z8e_162 z8e_163 z8e_164 z8e_165 z8e_166 z8e_167 z8e_168 z8e_169 z8e_170 z8e_171 z8e_172 z8e_173 z8e_174 z8e_175 z8e_176 z8e_177 z8e_178 z8e_179 z8e_180 z8e_181 z8e_182 z8e_183 z8e_184 z8e_185 z8e_186 z8e_187 z8e_188 z8e_189 z8e_190 z8e_191 z8e_192 z8e_193 z8e_194 z8e_195 z8e_196 z8e_197 z8e_198; simp only [condP, eq_self, implies_true, and_self, true_and, and_true, true_implies, forall_const, decide_eq_true_eq, decide_eq_false_iff_not, Int.toNat_natCast, dSpan_eSpan, dReach_eReach, dWay_eWay, dStep_eStep, dFar_eFar, dInt_eInt, Nat.zero_add, Int.zero_sub, Nat.le_eq, Nat.succ_eq_add_one, Nat.add_one_le_iff, Bool.not_eq_true', Bool.not_eq_false', rng_length, dSpan_mk, dReach_mk, dWay_mk, dStep_mk, dFar_mk, rng_getD, DL.m2, DL.d1, DL.d2, DL.d7, DL.d8, ch1, ch2, v1, v2, v3, v4, chIn_meas]
  simp only [hc, v5, v6, v7, w1, w2, w5, u1, u2, u3, u4, ch_try hc, decide_true, Bool.true_and, bne_self_eq_false, cond_false, cond_true, Bool.not_true, Bool.false_eq_true, false_implies, true_implies, BEq.rfl, implies_true, true_and, and_true, and_self]
  have hg := hs.good
  have hT : BalT (chN a) (chT a) 46000000 := ⟨by rw [hm.fl, hs.len], by rw [hm.tl, hs.g], fun i hi => by have := (hm.r i (by have := hm.fl; omega)).2.1; omega, fun i hi => by have := (hm.t i (by have := hm.tl; omega)).1; omega, fun q hq => by
    rw [bal_ends hs.len hs.ends]; exact hm.bal q (by rw [← hs.g]; exact hq)⟩
  have z0 : (mkN a.a 7).g.length ≤ 7 := by have := hm.gm; omega
  have z1 := hg.g1
  have z2 := hg.g8
  have z3 := hg.r14
  have z4 := hT.f
  have z5 := hT.t
  have st1 := stm0 h1
  have st2 := stm0 h2
  have st3 := stm0 h3
  have hdec : (bif bif bif !decide (setC (chN a) = 0) == (setC (chN a) == 0) then true else decide (setC (chN a) < 0) then true else false then true else false) = false := by
    rw [decide_eq_false (show ¬ setC (chN a) < 0 by omega)]
    by_cases h : setC (chN a) = 0
    · rw [h]; rfl
    · rw [decide_eq_false h, beq_eq_false_iff_ne.2 h]; rfl
  refine ⟨⟨rfl, st1.mono (by omega), by omega, by omega⟩, ⟨st2.mono (by omega), by show (mkN a.a 7).g.length ≤ _; omega, by show (mkN a.a 7).r.length ≤ _; have := hm.r11; omega⟩, fun h => (by rw [hdec] at h; cases h), fun _ => ⟨⟨⟨by omega, by omega⟩, by omega, by omega⟩, by omega, by omega, ⟨⟨⟨a.c, 0, 0⟩, 0⟩, ⟨rfl, rfl, fun _ _ => rfl, rfl, rfl⟩, Nat.zero_le _, st3.mono (by simp only; omega)⟩, fun c ⟨ck, cs⟩ clt => ⟨⟨by omega, by omega, by omega⟩, ⟨⟨rfl, cs.used.1⟩, fun hb2 => ⟨⟨by omega, by omega, by omega⟩, ⟨⟨nextS c.s 2, setT (chN a), 3, c.k⟩, ⟨rfl, rfl, fun _ _ => rfl, rfl, rfl, v6, fun _ _ => rfl, v7, v7, fun _ _ => rfl⟩, ⟨by simp only; omega, rfl, Nat.le_refl _, hb.mono (by simp only; omega), (cs.next (by omega) 2).mono (by simp only; omega)⟩, rfl, (cs.next (by omega) 2).mono (by simp only; omega)⟩⟩, fun hb2 => ⟨⟨nextS c.s 2, chT a, 3, c.k⟩, ⟨rfl, rfl, fun _ _ => rfl, rfl, rfl, rfl, fun _ _ => rfl, rfl, rfl, fun _ _ => rfl⟩, ⟨by simp only; omega, rfl, Nat.le_refl _, hT.mono (by simp only; omega), (cs.next (by omega) 2).mono (by simp only; omega)⟩, rfl, (cs.next (by omega) 2).mono (by simp only; omega)⟩⟩, fun y ⟨⟨y1, y2, y3, y4, y5'⟩, y6, y5⟩ => ⟨⟨rfl, y5.used.1⟩, ?en, fun x ⟨x1, x2, x3, x4, x5⟩ => ⟨fun hc2 => ?go, fun _ => ?out⟩⟩⟩⟩⟩
  case en =>
    have hm4 := nextV_in y5 (by omega) 4
    have hm5 := hm4.2 (by omega)
    exact ⟨⟨nextS y.s 4, y.y, (nextV y.s 4).toNat, y.k⟩, ⟨rfl, by simp only; omega, rfl, fun _ _ => rfl, rfl, rfl, rfl, fun _ _ => rfl, rfl, rfl, fun _ _ => rfl⟩, y1, y2, by simp only; omega, y4.mono (by simp only; omega), (y5.next (by omega) 4).mono (by simp only; omega)⟩
  case go =>
    have hc2 := and_b.1 hc2
    have := of_decide_eq_true hc2.2
    omega
  case out =>
    have i0 := nextV_in x5 (by omega) ((chN a).g.length : Int)
    have i1 := i0.2 (by omega)
    have t1 := x5.next (by omega) ((chN a).g.length : Int)
    have t2 := t1.next (by omega) (witN (-1) 1)
    have t3 := t2.next (by omega) 4
    have xf := x4.f
    have xt := x4.t
    have y2' : 6 - y.k = 6 - c.k := y2
    have x2' : 6 - x.k = 6 - c.k := x2
    have t4 : StmB (100 * ((x.k + 1 : Nat) : Int)) (nextS (witS (nextS x.s (chN a).g.length) (-1) 1) 4) := t3.mono (by clear i0 i1 hbd; omega)
    generalize nextV x.s ((chN a).g.length : Int) = q at *
    have d1 : x.k + 1 ≤ 6 := by clear hbd; omega
    have d2 : 6 - (x.k + 1) < 6 - c.k := by clear hbd; omega
    rw [ch_cost hc x4 (by omega)]
    exact ⟨⟨Nat.le_refl _, ⟨by omega, by omega⟩, by omega, by omega⟩, fun h => (by cases h), fun _ => ⟨⟨by omega, by omega⟩, ⟨x5.used.1, rfl, rfl, t1.used.1, ⟨by omega, by omega⟩, by omega⟩, ⟨rfl, t2.used.1⟩, ⟨Nat.le_refl _, fun j hj => (by rw [rng_get _ _ _ hj]), by omega⟩, ⟨nextS (witS (nextS x.s (chN a).g.length) (-1) 1) 4, x.k + 1⟩, ⟨(wsucc (by omega)).symm, rfl, fun _ _ => rfl, rfl, rfl⟩, ⟨d1, t4⟩, d2⟩⟩
theorem ok16x (e : Bool) : SpecOk Try.prog 16 (s16 e) := fun xs H r x hx hp => by
  unfold s16 at hx
  cases h : e && (Nat.beq r 18032 || Nat.beq r 20032) with
  | true => rw [h] at hx; exact ok16 xs H r x hx hp
  | false => rw [h] at hx; exact ok16o xs H r x hx hp
theorem gok8 (e : Bool) (a : BBB) : GOk Try.prog (A8 a e).Γ := gok_cons ok30 (gok_cons ok29 (gok_cons ok32 (gok_cons ok20t (gok_cons ok21t (gok_cons ok19t (gok_cons ok42t (gok_cons ok24t (gok_cons ok43 (gok_cons ok33 (gok_cons (ok16x e) (gok_cons ok14 gok_nil)))))))))))
theorem c8 (a : BBB) (h1 : ByOk a.a) (h2 : ByOk a.b) (h3 : ByOk a.c) : FnT Try.prog 8 (xs3B a) (heapOf []) (.bool true) [] := by
  by_cases h : (chN a).r.length = 0
  · exact fnt (A := A8 a true) (ren := []) (fz := []) Try.func8 (by kernel_rfl) (gok8 true a) (p8e a h1 h2 h3 h)
  · exact fnt (A := A8 a false) (ren := []) (fz := []) Try.func8 (by kernel_rfl) (gok8 false a) (p8 a h1 h2 h3 h)
end Go.Bal
