/- BalanceHeld. -/
import Derived.Test.YtonddbmhljelgaaBalAr
set_option linter.unusedVariables false
set_option linter.unusedSimpArgs false
namespace Go.Bal
open Go Go.Sym Go.Proofs
structure HK where
  s : Stm
  k : Nat
  deriving Inhabited
structure HI where
  s : Stm
  lv : List Int
  gr : List Int
  sum : Int
  v : Nat
  k : Nat
  deriving Inhabited
def heN (a : BB) : NetL := mkN a.a 7
def heT (a : BB) : TruthL := mkT a.a 7
def heH (a : BB) (s : Stm) : List (Nat × HCell) := [(201, begO (heN a)), (202, truO (heT a)), (203, stmH s)]
def heS : List (Nat × AVal) := [(5, .bptr 201 0), (6, .bptr 202 0), (7, .bptr 203 0)]
def heInv (a : BB) (gs : List Nat) (s : HI) : Prop := s.k < 6 ∧ 6 - s.k = gs.headD 0 ∧ s.v ≤ (heN a).g.length ∧ s.lv.length = s.v ∧ StmB (100 * (s.k : Int) + 4 * (s.v : Int)) s.s ∧ ((∀ x ∈ s.gr, 0 ≤ x ∧ x < s.v) ∧ s.gr.Pairwise (· < ·)) ∧ s.sum = grpV s.gr (heT a)
def heSl (s : HI) (x y : AVal) : List (Nat × AVal) := heS ++ [(26, .int s.k), (27, x), (28, y), (29, .int s.sum), (30, .int s.v)]
def A10 (a : BB) : Ann := { ann 288 [(30, C30.spec d30), (29, C29.spec d33), (46, C47.spec dNT), (48, C48.spec dNT8), (42, C42.spec dNT2), (34, C34t.spec dN), (20, C20t.spec dN), (43, C43.spec d43), (33, C33.spec d33), (24, C24.spec dP), (35, C35t.spec dGr), (14, s14)] with mt := fun id => id == 30 || id == 32, inner := fun gs id => if id = 11 then some [{ α := Nat, dflt := 0, T := fun k => ⟨heS ++ [(14, eSpL (spF (heN a))), (15, eSpL (spG (heN a))), (20, .int k)], heH a ⟨a.b, 0, 0⟩⟩, inv := fun k => k ≤ (spF (heN a)).length, meas := fun k => (spF (heN a)).length - k, first := [(201, 2096), (202, 2112), (203, 3016)] }] else if id = 17 then some [{ α := Nat, dflt := 0, T := fun k => ⟨heS ++ [(15, eSpL (spG (heN a))), (23, .int k)], heH a ⟨a.b, 0, 0⟩⟩, inv := fun k => k ≤ (spG (heN a)).length, meas := fun k => (spG (heN a)).length - k }] else if id = 23 then some [{ α := HK, dflt := default, T := fun s => ⟨heS ++ [(26, .int s.k)], heH a s.s⟩, inv := fun s => s.k ≤ 6 ∧ StmB (100 * (s.k : Int)) s.s, meas := fun s => 6 - s.k }] else if id = 28 then some [{ α := HI, dflt := default, T := fun s => ⟨heSl s (.d nilL) (.d nilL), heH a s.s⟩, inv := fun s => heInv a gs s ∧ s.v = 0 ∧ s.gr = [], meas := fun s => (heN a).g.length - s.v }, { α := HI, dflt := default, T := fun s => ⟨heSl s (.own 204 1 0 s.lv.length) (.d nilL), heH a s.s ++ [(204, rowL s.lv.length s.lv)]⟩, inv := fun s => heInv a gs s ∧ s.gr = [], meas := fun s => (heN a).g.length - s.v, again := [(204, 31064)] }, { α := HI, dflt := default, T := fun s => ⟨heSl s (.own 204 1 0 s.lv.length) (.own 205 1 0 s.gr.length), heH a s.s ++ [(204, rowL s.lv.length s.lv), (205, rowL s.gr.length s.gr)]⟩, inv := fun s => heInv a gs s ∧ s.gr ≠ [], meas := fun s => (heN a).g.length - s.v, again := [(204, 31064), (205, 33048)] }, { α := HI, dflt := default, T := fun s => ⟨heSl s (.own 204 1 0 s.lv.length) (.own 205 1 0 s.gr.length), heH a s.s ++ [(204, rowL s.lv.length s.lv), (205, rowL s.gr.length s.gr)]⟩, inv := fun s => heInv a gs s ∧ s.gr ≠ [], meas := fun s => (heN a).g.length - s.v, again := [(204, 31064)] }] else none }
def xsBB (a : BB) : List AVal := [.d (eBys a.a), .d (eBys a.b)]
def V10 (a : BB) : Prop := fnVC Try.prog (A10 a) Try.f10 (bodyOf Try.f10) (xsBB a) (heapOf []) (.bool true) [] [] []
abbrev z10_0 (a : BB) : List Int := rng a.a.length fun (i : Nat) => gD a.a i
abbrev z10_1 (a : BB) : Nat := (z10_0 a).length
abbrev z10_2 (a : BB) (i : Nat) : Int := gD (z10_0 a) i
abbrev z10_3 (a : BB) : List Int := rng (z10_1 a) fun (i : Nat) => z10_2 a i
abbrev z10_4 (a : BB) : Nat := (z10_3 a).length
abbrev z10_5 : Prop := (0 : Int) = (0 : Int)
abbrev z10_6 (a : BB) : Stm := Stm.mk (z10_3 a) (0 : Int) (0 : Int)
abbrev z10_7 (a : BB) : List Int := rng a.b.length fun (i : Nat) => gD a.b i
abbrev z10_8 (a : BB) : Nat := (z10_7 a).length
abbrev z10_9 (a : BB) (i : Nat) : Int := gD (z10_7 a) i
abbrev z10_10 (a : BB) : SN := SN.mk (z10_6 a) (7 : Int)
abbrev z10_11 (a : BB) : NetL := madeN (z10_10 a)
abbrev z10_12 (a : BB) : List Span := (z10_11 a).g
abbrev z10_13 (a : BB) : Nat := (z10_12 a).length
abbrev z10_14 (a : BB) (i : Nat) : Span := gD (z10_12 a) i
abbrev z10_15 (a : BB) : List Span := rng (z10_13 a) fun (i : Nat) => z10_14 a i
abbrev z10_16 (a : BB) : Nat := (z10_15 a).length
abbrev z10_17 (a : BB) : Prop := z10_16 a = z10_13 a
abbrev z10_18 (a : BB) (i : Nat) : Span := gD (z10_15 a) i
abbrev z10_19 (a : BB) (i : Nat) : Int := (z10_14 a i).lo
abbrev z10_20 (a : BB) (i : Nat) : Int := (z10_14 a i).hi
abbrev z10_21 (a : BB) : Prop := ∀ (i : Nat), i < z10_16 a → (z10_18 a i).lo = z10_19 a i ∧ (z10_18 a i).hi = z10_20 a i
abbrev z10_22 (a : BB) : List Reach := (z10_11 a).r
abbrev z10_23 (a : BB) : Nat := (z10_22 a).length
abbrev z10_24 (a : BB) (i : Nat) : Reach := gD (z10_22 a) i
abbrev z10_25 (a : BB) : List Reach := rng (z10_23 a) fun (i : Nat) => z10_24 a i
abbrev z10_26 (a : BB) : Nat := (z10_25 a).length
abbrev z10_27 (a : BB) : Prop := z10_26 a = z10_23 a
abbrev z10_28 (a : BB) (i : Nat) : Reach := gD (z10_25 a) i
abbrev z10_29 (a : BB) (i : Nat) : Int := (z10_24 a i).fr
abbrev z10_30 (a : BB) (i : Nat) : Int := (z10_24 a i).to
abbrev z10_31 (a : BB) (i : Nat) : Span := (z10_28 a i).sp
abbrev z10_32 (a : BB) (i : Nat) : Span := (z10_24 a i).sp
abbrev z10_33 (a : BB) (i : Nat) : Int := (z10_32 a i).lo
abbrev z10_34 (a : BB) (i : Nat) : Int := (z10_32 a i).hi
abbrev z10_35 (a : BB) : Prop := ∀ (i : Nat), i < z10_26 a → (z10_28 a i).fr = z10_29 a i ∧ (z10_28 a i).to = z10_30 a i ∧ (z10_31 a i).lo = z10_33 a i ∧ (z10_31 a i).hi = z10_34 a i
abbrev z10_36 (a : BB) : TruthL := madeTr (z10_10 a)
abbrev z10_37 (a : BB) : List Int := (z10_36 a).f
abbrev z10_38 (a : BB) : Nat := (z10_37 a).length
abbrev z10_39 (a : BB) (i : Nat) : Int := gD (z10_37 a) i
abbrev z10_40 (a : BB) : List Int := rng (z10_38 a) fun (i : Nat) => z10_39 a i
abbrev z10_41 (a : BB) : Nat := (z10_40 a).length
abbrev z10_42 (a : BB) : List Int := (z10_36 a).t
abbrev z10_43 (a : BB) : Nat := (z10_42 a).length
abbrev z10_44 (a : BB) (i : Nat) : Int := gD (z10_42 a) i
abbrev z10_45 (a : BB) : List Int := rng (z10_43 a) fun (i : Nat) => z10_44 a i
abbrev z10_46 (a : BB) : Nat := (z10_45 a).length
abbrev z10_47 (a : BB) : Prop := z10_17 a ∧ z10_21 a ∧ z10_27 a ∧ z10_35 a ∧ z10_41 a = z10_38 a ∧ (∀ (i : Nat), i < z10_41 a → gD (z10_40 a) i = z10_39 a i) ∧ z10_46 a = z10_43 a ∧ (∀ (i : Nat), i < z10_46 a → gD
 (z10_45 a) i = z10_44 a i) ∧ (z10_16 a ≤ (1000000 : Nat) ∧ z10_26 a ≤ (1000000 : Nat)) ∧ z10_41 a ≤ (1000000 : Nat) ∧ z10_46 a ≤ (1000000 : Nat)
abbrev z10_48 (a : BB) : Prop := z10_17 a ∧ z10_21 a ∧ z10_27 a ∧ z10_35 a
abbrev z10_49 (a : BB) : NetL := NetL.mk (z10_15 a) (z10_25 a)
abbrev z10_50 (a : BB) : TruthL := TruthL.mk (z10_40 a) (z10_45 a)
abbrev z10_51 (a : BB) : Bool := askM (z10_49 a) (z10_50 a) != (0 : Int)
abbrev z10_52 (a : BB) : List Span := fitF (z10_49 a)
abbrev z10_53 (a : BB) : Nat := (z10_52 a).length
abbrev z10_54 (a : BB) : List Span := fitG (z10_49 a)
abbrev z10_55 (a : BB) : Nat := (z10_54 a).length
abbrev z10_56 (a : BB) (i : Nat) : Span := gD (z10_52 a) i
abbrev z10_57 (a : BB) (i : Nat) : Span := gD (z10_54 a) i
abbrev z10_58 (a : Nat) : Prop := (↑a : Int) = (0 : Int)
abbrev z10_59 : Prop := z10_5 ∧ z10_5
abbrev z10_60 (a : Nat) (a1 : BB) : Prop := (↑a : Int) < (↑(spF (heN a1)).length : Int)
abbrev z10_61 (a : Nat) : Prop := (0 : Int) ≤ (↑a : Int)
abbrev z10_62 (a : Nat) (a1 : BB) : Prop := z10_61 a ∧ (↑a : Int) < (↑(heT a1).f.length : Int)
abbrev z10_63 (a : BB) (a1 : Nat) : Bool := decide (gD (heT a).f a1 < (gD (spF (heN a)) a1).lo)
abbrev z10_64 (a : BB) : Prop := (spG (heN a)).length = (spG (heN a)).length
abbrev z10_65 (a : BB) : Prop := ∀ (i : Nat), i < (spG (heN a)).length → (gD (spG (heN a)) i).lo = (gD (spG (heN a)) i).lo ∧ (gD (spG (heN a)) i).hi = (gD (spG (heN a)) i).hi
abbrev z10_66 (a : BB) : Prop := (heN a).g.length = (heN a).g.length
abbrev z10_67 (a : BB) : Prop := ∀ (i : Nat), i < (heN a).g.length → (gD (heN a).g i).lo = (gD (heN a).g i).lo ∧ (gD (heN a).g i).hi = (gD (heN a).g i).hi
abbrev z10_68 (a : BB) : Prop := (heN a).r.length = (heN a).r.length
abbrev z10_69 (a : BB) : Prop := ∀ (i : Nat), i < (heN a).r.length → (gD (heN a).r i).fr = (gD (heN a).r i).fr ∧ (gD (heN a).r i).to = (gD (heN a).r i).to ∧ (gD (heN a).r i).sp.lo = (gD (heN a).r i).sp.lo ∧ (gD (heN a).r
 i).sp.hi = (gD (heN a).r i).sp.hi
abbrev z10_70 (a : BB) : Prop := (heT a).f.length = (heT a).f.length
abbrev z10_71 (a : BB) : Prop := ∀ (i : Nat), i < (heT a).f.length → gD (heT a).f i = gD (heT a).f i
abbrev z10_72 (a : BB) : Prop := (heT a).t.length = (heT a).t.length
abbrev z10_73 (a : BB) : Prop := ∀ (i : Nat), i < (heT a).t.length → gD (heT a).t i = gD (heT a).t i
abbrev z10_74 (a : BB) : Prop := z10_66 a ∧ z10_67 a ∧ z10_68 a ∧ z10_69 a ∧ z10_70 a ∧ z10_71 a ∧ z10_72 a ∧ z10_73 a ∧ a.b.length = a.b.length ∧ (∀ (i : Nat), i < a.b.length → gD a.b i = gD a.b i) ∧ z10_59
abbrev z10_75 (a : BB) (a1 : Nat) (a2 : Nat) : Prop := z10_64 a ∧ z10_65 a ∧ (↑a1 : Int) = IntKind.i64.wrap ((↑a2 : Int) + (1 : Int)) ∧ z10_74 a
abbrev z10_76 (a : BB) (a1 : Nat) : Nat := (spF (heN a)).length - a1
abbrev z10_77 (a : Nat) (a1 : BB) : Prop := (↑a : Int) < (↑(spG (heN a1)).length : Int)
abbrev z10_78 (a : Nat) (a1 : BB) : Prop := z10_61 a ∧ (↑a : Int) < (↑(heT a1).t.length : Int)
abbrev z10_79 (a : BB) (a1 : Nat) : Bool := decide (gD (heT a).t a1 < (gD (spG (heN a)) a1).lo)
abbrev z10_80 (a : BB) (a1 : Nat) : Nat := (spG (heN a)).length - a1
abbrev z10_81 (a : HK) : Prop := a.k ≤ (6 : Nat) ∧ StmB ((100 : Int) * (↑a.k : Int)) a.s
abbrev z10_82 : Prop := (0 : Nat) = (0 : Nat)
abbrev z10_83 : Prop := ∀ (i : Nat), i < (0 : Nat) → false = false
abbrev z10_84 (a : HK) : Nat := (6 : Nat) - a.k
abbrev z10_85 (a : HI) (a1 : HK) (a2 : BB) : Prop := a.k < (6 : Nat) ∧ (6 : Nat) - a.k = [z10_84 a1].headD (0 : Nat) ∧ a.v ≤ (heN a2).g.length ∧ a.lv.length = a.v ∧ StmB ((100 : Int) * (↑a.k : Int) + (4 : Int) * (↑a.v :
 Int)) a.s ∧ ((∀ (x : Int), List.Mem x a.gr → (0 : Int) ≤ x ∧ x < (↑a.v : Int)) ∧ List.Pairwise (fun (x1 x2 : Int) => x1 < x2) a.gr) ∧ a.sum = grpV a.gr (heT a2)
abbrev z10_86 (a : HI) (a1 : HK) (a2 : BB) : Prop := z10_85 a a1 a2 ∧ a.v = (0 : Nat) ∧ a.gr = []
abbrev z10_87 (a : HI) (a1 : BB) : Bool := decide ((↑a.v : Int) < (↑(heN a1).g.length : Int))
abbrev z10_88 : Prop := (-1 : Int) = Int.negSucc (0 : Nat)
abbrev z10_89 : Prop := (1 : Int) = Int.ofNat (1 : Nat)
abbrev z10_90 (a : HI) : List Int := rng a.s.bs.length fun (i : Nat) => gD a.s.bs i
abbrev z10_91 (a : HI) : Nat := (z10_90 a).length
abbrev z10_92 (a : HI) : Prop := z10_91 a = a.s.bs.length
abbrev z10_93 (a : HI) : Prop := ∀ (i : Nat), i < z10_91 a → gD (z10_90 a) i = gD a.s.bs i
abbrev z10_94 (a : HI) : Prop := (0 : Int) ≤ a.s.used
abbrev z10_95 : Prop := (0 : Nat) < (1 : Nat)
abbrev z10_96 : Prop := (1 : Nat) = (1 : Nat)
abbrev z10_97 : Prop := (1 : Nat) ≤ (1 : Nat) ∧ (z10_95 → z10_96)
abbrev z10_98 : Prop := (True ∧ ((0 : Nat) < (0 : Nat) → (0 : Nat) = (1 : Nat))) ∧ z10_97 ∧ (true = true → z10_95) ∧ (1 : Nat) ≤ (9223372036854775807 : Nat) ∧ (8 : Nat) ≤ (140737488355328 : Nat)
abbrev z10_99 (a : HI) : Stm := Stm.mk (z10_90 a) a.s.used a.s.mix
abbrev z10_100 (a : HI) : Stm := witS (z10_99 a) (-1 : Int) (1 : Int)
abbrev z10_101 (a : HI) : List Int := (z10_100 a).bs
abbrev z10_102 (a : HI) : Nat := (z10_101 a).length
abbrev z10_103 (a : HI) (i : Nat) : Int := gD (z10_101 a) i
abbrev z10_104 (a : HI) : List Int := rng (z10_102 a) fun (i : Nat) => z10_103 a i
abbrev z10_105 (a : HI) : Nat := (z10_104 a).length
abbrev z10_106 (a : HI) : Int := (z10_100 a).used
abbrev z10_107 (a : HI) : Int := (z10_100 a).mix
abbrev z10_108 (a : HI) : Prop := (2 : Int) = Int.ofNat (2 : Nat) ∧ z10_105 a = z10_102 a ∧ (∀ (i : Nat), i < z10_105 a → gD (z10_104 a) i = z10_103 a i) ∧ z10_106 a = z10_106 a ∧ z10_107 a = z10_107 a ∧ (z10_106 a - (0
 : Int)).NonNeg
abbrev z10_109 (a : HI) : Stm := Stm.mk (z10_104 a) (z10_106 a) (z10_107 a)
abbrev z10_110 (a : HI) : Bool := nextV (z10_109 a) (2 : Int) == (0 : Int)
abbrev z10_111 (a : HI) (a1 : BB) : Prop := (0 : Int) ≤ (↑a.v : Int) ∧ (↑a.v : Int) < (↑(heT a1).t.length : Int)
abbrev z10_112 (a : HI) (a1 : HI) : Prop := (↑a.k : Int) = (↑a1.k : Int)
abbrev z10_113 (a : HI) : Prop := a.lv.length = (1 : Nat)
abbrev z10_114 (a : HI) : Prop := a.gr.length = (1 : Nat)
abbrev z10_115 (a : HI) (a1 : HI) (a2 : BB) : Prop := a.sum = IntKind.i64.wrap (a1.sum + gD (heT a2).t a1.v)
abbrev z10_116 (a : HI) (a1 : HI) : Prop := (↑a.v : Int) = IntKind.i64.wrap ((↑a1.v : Int) + (1 : Int))
abbrev z10_117 (a : HI) : Stm := nextS (z10_109 a) (2 : Int)
abbrev z10_118 (a : HI) : List Int := (z10_117 a).bs
abbrev z10_119 (a : HI) (a1 : HI) : Prop := a.s.bs.length = (z10_118 a1).length
abbrev z10_120 (a : HI) (a1 : HI) : Prop := ∀ (i : Nat), i < a.s.bs.length → gD a.s.bs i = gD (z10_118 a1) i
abbrev z10_121 (a : HI) (a1 : HI) : Prop := a.s.used = (z10_117 a1).used
abbrev z10_122 (a : HI) (a1 : HI) : Prop := a.s.mix = (z10_117 a1).mix
abbrev z10_123 (a : HI) : Int := witV (z10_99 a) (-1 : Int) (1 : Int)
abbrev z10_124 (a : HI) (a1 : HI) : Prop := ∀ (i : Nat), i < a.lv.length → gD a.lv i = z10_123 a1
abbrev z10_125 (a : HI) (a1 : HI) : Prop := z10_114 a ∧ ∀ (i : Nat), i < a.gr.length → gD a.gr i = (↑a1.v : Int)
abbrev z10_126 (a : HI) (a1 : HK) (a2 : BB) : Prop := z10_85 a a1 a2 ∧ a.gr ≠ []
abbrev z10_127 (a : BB) (a1 : HI) : Nat := (heN a).g.length - a1.v
abbrev z10_128 (a : BB) (a1 : HI) (a2 : HI) : Prop := z10_127 a a1 < z10_127 a a2
abbrev z10_129 (a : HI) (a1 : HK) (a2 : BB) (a3 : HI) : Prop := z10_126 a a1 a2 ∧ z10_128 a2 a a3
abbrev z10_130 (a : HI) (a1 : HK) (a2 : BB) : Prop := z10_85 a a1 a2 ∧ a.gr = []
abbrev z10_131 (a : HI) (a1 : HK) (a2 : BB) (a3 : HI) : Prop := z10_130 a a1 a2 ∧ z10_128 a2 a a3
abbrev z10_132 (a : BB) : List Span := rng (heN a).g.length fun (i : Nat) => gD (heN a).g i
abbrev z10_133 (a : BB) : Nat := (z10_132 a).length
abbrev z10_134 (a : BB) : Prop := z10_133 a = (heN a).g.length
abbrev z10_135 (a : BB) (i : Nat) : Span := gD (z10_132 a) i
abbrev z10_136 (a : BB) : Prop := ∀ (i : Nat), i < z10_133 a → (z10_135 a i).lo = (gD (heN a).g i).lo ∧ (z10_135 a i).hi = (gD (heN a).g i).hi
abbrev z10_137 (a : BB) : List Reach := rng (heN a).r.length fun (i : Nat) => gD (heN a).r i
abbrev z10_138 (a : BB) : Nat := (z10_137 a).length
abbrev z10_139 (a : BB) : Prop := z10_138 a = (heN a).r.length
abbrev z10_140 (a : BB) (i : Nat) : Reach := gD (z10_137 a) i
abbrev z10_141 (a : BB) (i : Nat) : Span := (z10_140 a i).sp
abbrev z10_142 (a : BB) : Prop := ∀ (i : Nat), i < z10_138 a → (z10_140 a i).fr = (gD (heN a).r i).fr ∧ (z10_140 a i).to = (gD (heN a).r i).to ∧ (z10_141 a i).lo = (gD (heN a).r i).sp.lo ∧ (z10_141 a i).hi = (gD (heN
 a).r i).sp.hi
abbrev z10_143 : List Int := rng (0 : Nat) fun (i : Nat) => default
abbrev z10_144 (a : BB) : NetL := NetL.mk (z10_132 a) (z10_137 a)
abbrev z10_145 (a : BB) : Int := provE (NPL.mk (z10_144 a) (1 : Int) z10_143)
abbrev z10_146 (a : HI) (a1 : BB) (a2 : HK) : Prop := ∃ (a_1 : HK), ((↑a_1.k : Int) = IntKind.i64.wrap ((↑a.k : Int) + (1 : Int)) ∧ z10_66 a1 ∧ z10_67 a1 ∧ z10_68 a1 ∧ z10_69 a1 ∧ z10_70 a1 ∧ z10_71 a1 ∧ z10_72 a1 ∧
 z10_73 a1 ∧ a_1.s.bs.length = a.s.bs.length ∧ (∀ (i : Nat), i < a_1.s.bs.length → gD a_1.s.bs i = gD a.s.bs i) ∧ a_1.s.used = a.s.used ∧ a_1.s.mix = a.s.mix) ∧ z10_81 a_1 ∧ z10_84 a_1 < z10_84 a2
abbrev z10_147 : Prop := false = true → z10_95
abbrev z10_148 (a : HI) : Nat := a.lv.length + (1 : Nat)
abbrev z10_149 (a : HI) : Prop := z10_88 ∧ z10_89 ∧ z10_92 a ∧ z10_93 a ∧ a.s.used = a.s.used ∧ a.s.mix = a.s.mix ∧ z10_94 a ∧ (a.lv.length = a.lv.length ∧ ((0 : Nat) < a.lv.length → z10_96)) ∧ z10_97 ∧ z10_147 ∧ z10_148
 a ≤ (9223372036854775807 : Nat) ∧ z10_148 a * (8 : Nat) ≤ (140737488355328 : Nat)
abbrev z10_150 (a : HI) (a1 : HI) : Prop := a.lv.length = z10_148 a1
abbrev z10_151 (a : HI) (a1 : HI) : Prop := ∀ (i : Nat), i < a.lv.length → gD a.lv i = bif decide (i < a1.lv.length) then gD a1.lv i else z10_123 a1
abbrev z10_152 (a : HI) : List Int := rng a.lv.length fun (i : Nat) => gD a.lv i
abbrev z10_153 (a : HI) : Nat := (z10_152 a).length
abbrev z10_154 (j : Nat) : Nat := (0 : Nat) + j
abbrev z10_155 (a : BB) (a1 : HI) : Prop := z10_134 a ∧ z10_136 a ∧ z10_139 a ∧ z10_142 a ∧ z10_89 ∧ z10_153 a1 = a1.lv.length ∧ (0 : Nat) + a1.lv.length ≤ a1.lv.length ∧ (∀ (j : Nat), j < z10_153 a1 → gD (z10_152 a1) j
 = gD a1.lv (z10_154 j)) ∧ (z10_153 a1).succ.le (4611686018427387904 : Nat)
abbrev z10_156 (a : BB) (a1 : HI) : Int := provE (NPL.mk (z10_144 a) (1 : Int) (z10_152 a1))
abbrev z10_157 (a : BB) (a1 : HI) : Bool := bif bif z10_156 a a1 != (0 : Int) then z10_156 a a1 != (2 : Int) else false then true else decide (z10_156 a a1 = (0 : Int)) && decide ((1 : Int) ≤ provedM (z10_144 a) (z10_152
 a1))
abbrev z10_158 (a : HI) : Nat := a.gr.length + (1 : Nat)
abbrev z10_159 (a : HI) (a1 : HI) : Prop := a.gr.length = z10_158 a1
abbrev z10_160 (a : HI) (a1 : HI) : Prop := a.gr.length = a1.gr.length
abbrev z10_161 (a : HI) : List Int := rng a.gr.length fun (i : Nat) => gD a.gr i
abbrev z10_162 (a : HI) : Nat := (z10_161 a).length
abbrev z10_163 (a : BB) (a1 : HI) : NGr := NGr.mk (z10_144 a) (z10_161 a1)
abbrev z10_164 (a : BB) (a1 : HI) : Span := grpT (z10_163 a a1)
abbrev z10_165 (a : HK) (a1 : BB) : Prop := ∀ (a_1 : HI), z10_126 a_1 a a1 → bif z10_87 a_1 a1 then z10_149 a_1 ∧ z10_108 a_1 ∧ bif z10_110 a_1 then ((a_1.gr.length = a_1.gr.length ∧ ((0 : Nat) < a_1.gr.length → z10_96))
 ∧ z10_97 ∧ z10_147 ∧ z10_158 a_1 ≤ (9223372036854775807 : Nat) ∧ z10_158 a_1 * (8 : Nat) ≤ (140737488355328 : Nat)) ∧ z10_111 a_1 a1 ∧ ∃ (a_3 : HI), (z10_112 a_3 a_1 ∧ z10_82 ∧ z10_150 a_3 a_1 ∧ z10_82 ∧ z10_159 a_3 a_1
 ∧ z10_115 a_3 a_1 a1 ∧ z10_116 a_3 a_1 ∧ z10_66 a1 ∧ z10_67 a1 ∧ z10_68 a1 ∧ z10_69 a1 ∧ z10_70 a1 ∧ z10_71 a1 ∧ z10_72 a1 ∧ z10_73 a1 ∧ z10_119 a_3 a_1 ∧ z10_120 a_3 a_1 ∧ z10_121 a_3 a_1 ∧ z10_122 a_3 a_1 ∧ z10_150 a_3
 a_1 ∧ z10_151 a_3 a_1 ∧ z10_159 a_3 a_1 ∧ ∀ (i : Nat), i < a_3.gr.length → gD a_3.gr i = bif decide (i < a_1.gr.length) then gD a_1.gr i else (↑a_1.v : Int)) ∧ z10_129 a_3 a a1 a_1 else ∃ (a_3 : HI), (z10_112 a_3 a_1 ∧
 z10_82 ∧ z10_150 a_3 a_1 ∧ z10_82 ∧ z10_160 a_3 a_1 ∧ a_3.sum = a_1.sum ∧ z10_116 a_3 a_1 ∧ z10_66 a1 ∧ z10_67 a1 ∧ z10_68 a1 ∧ z10_69 a1 ∧ z10_70 a1 ∧ z10_71 a1 ∧ z10_72 a1 ∧ z10_73 a1 ∧ z10_119 a_3 a_1 ∧ z10_120 a_3
 a_1 ∧ z10_121 a_3 a_1 ∧ z10_122 a_3 a_1 ∧ z10_150 a_3 a_1 ∧ z10_151 a_3 a_1 ∧ z10_160 a_3 a_1 ∧ ∀ (i : Nat), i < a_3.gr.length → gD a_3.gr i = gD a_1.gr i) ∧ z10_129 a_3 a a1 a_1 else z10_155 a1 a_1 ∧ bif z10_157 a1 a_1
 then true = false else bif (↑a_1.gr.length : Int) == (0 : Int) then z10_146 a_1 a1 a else (z10_134 a1 ∧ z10_136 a1 ∧ z10_139 a1 ∧ z10_142 a1 ∧ z10_162 a_1 = a_1.gr.length ∧ (0 : Nat) + a_1.gr.length ≤ a_1.gr.length ∧ (∀
 (j : Nat), j < z10_162 a_1 → gD (z10_161 a_1) j = gD a_1.gr (z10_154 j)) ∧ (z10_162 a_1).le (1000000 : Nat)) ∧ bif bif bif grpE (z10_163 a1 a_1) != (0 : Int) then true else decide (a_1.sum < (z10_164 a1 a_1).lo) then
 true else decide (a_1.sum > (z10_164 a1 a_1).hi) then true = false else z10_146 a_1 a1 a
theorem vc10 (a : BB) : (V10 a) = ((z10_1 a = a.a.length ∧ (∀ (i : Nat), i < z10_1 a → z10_2 a i = gD a.a i) ∧ (7 : Int) = Int.ofNat (7 : Nat) ∧ z10_4 a = z10_1 a ∧ (∀ (i : Nat), i < z10_4 a → gD (z10_3 a) i = z10_2 a i)
 ∧ z10_5 ∧ z10_5 ∧ StmB (1000000000 : Int) (z10_6 a) ∧ (1 : Int) ≤ (7 : Int) ∧ (7 : Int) ≤ (8 : Int)) ∧ (z10_8 a = a.b.length ∧ ∀ (i : Nat), i < z10_8 a → z10_9 a i = gD a.b i) ∧ z10_47 a ∧ z10_47 a ∧ z10_47 a ∧ z10_48 a
 ∧ z10_48 a ∧ bif bif bif bif bif bif bif bif bif bif bif z10_51 a then true else z10_51 a then true else costE (z10_49 a) (z10_50 a) != (0 : Int) then true else fitE (z10_49 a) != (0 : Int) then true else checkL (z10_49
 a) != (0 : Int) then true else decide ((↑(balL (z10_49 a) (z10_50 a)).length : Int) > (0 : Int)) then true else !holdM (z10_49 a) (z10_50 a) then true else costV (z10_49 a) (z10_50 a) != (0 : Int) then true else corC
 (z10_49 a) != (0 : Int) then true else (↑(z10_53 a) : Int) != (↑(z10_23 a) : Int) then true else (↑(z10_55 a) : Int) != (↑(z10_13 a) : Int) then true = false else (∃ (a_1 : Nat), ((spF (heN a)).length = z10_53 a ∧ (∀ (i
 : Nat), i < (spF (heN a)).length → (gD (spF (heN a)) i).lo = (z10_56 a i).lo ∧ (gD (spF (heN a)) i).hi = (z10_56 a i).hi) ∧ (spG (heN a)).length = z10_55 a ∧ (∀ (i : Nat), i < (spG (heN a)).length → (gD (spG (heN a))
 i).lo = (z10_57 a i).lo ∧ (gD (spG (heN a)) i).hi = (z10_57 a i).hi) ∧ z10_58 a_1 ∧ (heN a).g.length = z10_13 a ∧ (∀ (i : Nat), i < (heN a).g.length → (gD (heN a).g i).lo = z10_19 a i ∧ (gD (heN a).g i).hi = z10_20 a i)
 ∧ (heN a).r.length = z10_23 a ∧ (∀ (i : Nat), i < (heN a).r.length → (gD (heN a).r i).fr = z10_29 a i ∧ (gD (heN a).r i).to = z10_30 a i ∧ (gD (heN a).r i).sp.lo = z10_33 a i ∧ (gD (heN a).r i).sp.hi = z10_34 a i) ∧ (heT
 a).f.length = z10_38 a ∧ (∀ (i : Nat), i < (heT a).f.length → gD (heT a).f i = z10_39 a i) ∧ (heT a).t.length = z10_43 a ∧ (∀ (i : Nat), i < (heT a).t.length → gD (heT a).t i = z10_44 a i) ∧ a.b.length = z10_8 a ∧ (∀ (i
 : Nat), i < a.b.length → gD a.b i = z10_9 a i) ∧ z10_59) ∧ a_1.le (spF (heN a)).length) ∧ ∀ (a_1 : Nat), a_1.le (spF (heN a)).length → bif decide (z10_60 a_1 a) then ((z10_61 a_1 ∧ z10_60 a_1 a) ∧ z10_61 a_1 ∧ (↑a_1 :
 Int) < (↑(heN a).r.length : Int)) ∧ (z10_62 a_1 a ∧ ((!z10_63 a a_1) = true → z10_62 a_1 a)) ∧ bif bif bif bif z10_63 a a_1 then true else decide (gD (heT a).f a_1 > (gD (spF (heN a)) a_1).hi) then true else decide ((gD
 (spF (heN a)) a_1).lo < (gD (heN a).r a_1).sp.lo) then true else decide ((gD (spF (heN a)) a_1).hi > (gD (heN a).r a_1).sp.hi) then true = false else ∃ (a_3 : Nat), ((spF (heN a)).length = (spF (heN a)).length ∧ (∀ (i :
 Nat), i < (spF (heN a)).length → (gD (spF (heN a)) i).lo = (gD (spF (heN a)) i).lo ∧ (gD (spF (heN a)) i).hi = (gD (spF (heN a)) i).hi) ∧ z10_75 a a_3 a_1) ∧ a_3.le (spF (heN a)).length ∧ z10_76 a a_3 < z10_76 a a_1 else
 (∃ (a_3 : Nat), (z10_64 a ∧ z10_65 a ∧ z10_58 a_3 ∧ z10_74 a) ∧ a_3.le (spG (heN a)).length) ∧ ∀ (a_3 : Nat), a_3.le (spG (heN a)).length → bif decide (z10_77 a_3 a) then ((z10_61 a_3 ∧ z10_77 a_3 a) ∧ z10_61 a_3 ∧ (↑a_3
 : Int) < (↑(heN a).g.length : Int)) ∧ (z10_78 a_3 a ∧ ((!z10_79 a a_3) = true → z10_78 a_3 a)) ∧ bif bif bif bif z10_79 a a_3 then true else decide (gD (heT a).t a_3 > (gD (spG (heN a)) a_3).hi) then true else decide
 ((gD (spG (heN a)) a_3).lo < (gD (heN a).g a_3).lo) then true else decide ((gD (spG (heN a)) a_3).hi > (gD (heN a).g a_3).hi) then true = false else ∃ (a_5 : Nat), z10_75 a a_5 a_3 ∧ a_5.le (spG (heN a)).length ∧ z10_80
 a a_5 < z10_80 a a_3 else (∃ (a_5 : HK), ((↑a_5.k : Int) = (0 : Int) ∧ z10_66 a ∧ z10_67 a ∧ z10_68 a ∧ z10_69 a ∧ z10_70 a ∧ z10_71 a ∧ z10_72 a ∧ z10_73 a ∧ a_5.s.bs.length = a.b.length ∧ (∀ (i : Nat), i <
 a_5.s.bs.length → gD a_5.s.bs i = gD a.b i) ∧ a_5.s.used = (0 : Int) ∧ a_5.s.mix = (0 : Int)) ∧ z10_81 a_5) ∧ ∀ (a_5 : HK), z10_81 a_5 → bif decide ((↑a_5.k : Int) < (6 : Int)) then (∃ (a_7 : HI), ((↑a_7.k : Int) =
 (↑a_5.k : Int) ∧ z10_82 ∧ z10_83 ∧ z10_82 ∧ z10_83 ∧ a_7.sum = (0 : Int) ∧ (↑a_7.v : Int) = (0 : Int) ∧ z10_66 a ∧ z10_67 a ∧ z10_68 a ∧ z10_69 a ∧ z10_70 a ∧ z10_71 a ∧ z10_72 a ∧ z10_73 a ∧ a_7.s.bs.length =
 a_5.s.bs.length ∧ (∀ (i : Nat), i < a_7.s.bs.length → gD a_7.s.bs i = gD a_5.s.bs i) ∧ a_7.s.used = a_5.s.used ∧ a_7.s.mix = a_5.s.mix) ∧ z10_86 a_7 a_5 a) ∧ (∀ (a_7 : HI), z10_86 a_7 a_5 a → bif z10_87 a_7 a then
 (z10_88 ∧ z10_89 ∧ z10_92 a_7 ∧ z10_93 a_7 ∧ a_7.s.used = a_7.s.used ∧ a_7.s.mix = a_7.s.mix ∧ z10_94 a_7 ∧ z10_98) ∧ z10_108 a_7 ∧ bif z10_110 a_7 then z10_98 ∧ z10_111 a_7 a ∧ ∃ (a_9 : HI), (z10_112 a_9 a_7 ∧ z10_82 ∧
 z10_113 a_9 ∧ z10_82 ∧ z10_114 a_9 ∧ z10_115 a_9 a_7 a ∧ z10_116 a_9 a_7 ∧ z10_66 a ∧ z10_67 a ∧ z10_68 a ∧ z10_69 a ∧ z10_70 a ∧ z10_71 a ∧ z10_72 a ∧ z10_73 a ∧ z10_119 a_9 a_7 ∧ z10_120 a_9 a_7 ∧ z10_121 a_9 a_7 ∧
 z10_122 a_9 a_7 ∧ z10_113 a_9 ∧ z10_124 a_9 a_7 ∧ z10_125 a_9 a_7) ∧ z10_129 a_9 a_5 a a_7 else ∃ (a_9 : HI), (z10_112 a_9 a_7 ∧ z10_82 ∧ z10_113 a_9 ∧ z10_82 ∧ z10_83 ∧ a_9.sum = a_7.sum ∧ z10_116 a_9 a_7 ∧ z10_66 a ∧
 z10_67 a ∧ z10_68 a ∧ z10_69 a ∧ z10_70 a ∧ z10_71 a ∧ z10_72 a ∧ z10_73 a ∧ z10_119 a_9 a_7 ∧ z10_120 a_9 a_7 ∧ z10_121 a_9 a_7 ∧ z10_122 a_9 a_7 ∧ z10_113 a_9 ∧ z10_124 a_9 a_7) ∧ z10_131 a_9 a_5 a a_7 else (z10_134 a
 ∧ z10_136 a ∧ z10_139 a ∧ z10_142 a ∧ z10_89 ∧ z10_82 ∧ z10_82 ∧ z10_143.length.succ.le (4611686018427387904 : Nat)) ∧ bif bif bif z10_145 a != (0 : Int) then z10_145 a != (2 : Int) else false then true else decide
 (z10_145 a = (0 : Int)) && decide ((1 : Int) ≤ provedM (z10_144 a) z10_143) then true = false else z10_146 a_7 a a_5) ∧ (∀ (a_7 : HI), z10_130 a_7 a_5 a → bif z10_87 a_7 a then z10_149 a_7 ∧ z10_108 a_7 ∧ bif z10_110 a_7
 then z10_98 ∧ z10_111 a_7 a ∧ ∃ (a_9 : HI), (z10_112 a_9 a_7 ∧ z10_82 ∧ z10_150 a_9 a_7 ∧ z10_82 ∧ z10_114 a_9 ∧ z10_115 a_9 a_7 a ∧ z10_116 a_9 a_7 ∧ z10_66 a ∧ z10_67 a ∧ z10_68 a ∧ z10_69 a ∧ z10_70 a ∧ z10_71 a ∧
 z10_72 a ∧ z10_73 a ∧ z10_119 a_9 a_7 ∧ z10_120 a_9 a_7 ∧ z10_121 a_9 a_7 ∧ z10_122 a_9 a_7 ∧ z10_150 a_9 a_7 ∧ z10_151 a_9 a_7 ∧ z10_125 a_9 a_7) ∧ z10_129 a_9 a_5 a a_7 else ∃ (a_9 : HI), (z10_112 a_9 a_7 ∧ z10_82 ∧
 z10_150 a_9 a_7 ∧ z10_82 ∧ z10_83 ∧ a_9.sum = a_7.sum ∧ z10_116 a_9 a_7 ∧ z10_66 a ∧ z10_67 a ∧ z10_68 a ∧ z10_69 a ∧ z10_70 a ∧ z10_71 a ∧ z10_72 a ∧ z10_73 a ∧ z10_119 a_9 a_7 ∧ z10_120 a_9 a_7 ∧ z10_121 a_9 a_7 ∧
 z10_122 a_9 a_7 ∧ z10_150 a_9 a_7 ∧ z10_151 a_9 a_7) ∧ z10_131 a_9 a_5 a a_7 else z10_155 a a_7 ∧ bif z10_157 a a_7 then true = false else z10_146 a_7 a a_5) ∧ z10_165 a_5 a ∧ z10_165 a_5 a else true = true) := by
 kernel_rfl
theorem he1 (a : BB) : madeN (SN.mk (Stm.mk a.a 0 0) 7) = heN a := rfl
theorem he2 (a : BB) : madeTr (SN.mk (Stm.mk a.a 0 0) 7) = heT a := rfl
theorem grpV_add (l : List Int) (x : Int) (T : TruthL) : grpV (l ++ [x]) T = grpV l T + gD T.t x.toNat := by
  unfold grpV; rw [sumL_append]; simp [sumL]
def heGo (a : BB) (s : HI) (b : Bool) : HI := ⟨nextS (witS s.s (-1) 1) 2, s.lv ++ [witV s.s (-1) 1], bif b then s.gr ++ [(s.v : Int)] else s.gr, bif b then wr (s.sum + gD (heT a).t s.v) else s.sum, s.v + 1, s.k⟩
theorem he_go {a : BB} (hm : Made (heN a) (heT a) 7) {gs : List Nat} {s : HI} (h : heInv a gs s) (hv : s.v < (heN a).g.length) (b : Bool) : heInv a gs (heGo a s b) := by
  obtain ⟨q1, q2, q3, q4, q5, ⟨q6, q7⟩, q8⟩ := h
  have g7 := hm.gm
  have t1 := q5.next (by omega) (witN (-1) 1)
  have t2 := t1.next (by omega) 2
  refine ⟨q1, q2, hv, by simp [heGo, q4], t2.mono (by simp only [heGo]; omega), ?_, ?_⟩
  · cases b with
    | false => exact ⟨fun x hx => by have := q6 x hx; simp only [heGo]; omega, q7⟩
    | true =>
      refine ⟨fun x hx => ?_, ?_⟩
      · rcases List.mem_append.1 hx with hx | hx
        · have := q6 x hx; simp only [heGo]; omega
        · have : x = s.v := by simpa using hx
          simp only [heGo]; omega
      · show List.Pairwise (· < ·) (s.gr ++ [(s.v : Int)])
        rw [List.pairwise_append]
        exact ⟨q7, by simp, fun x hx y hy => by have : y = s.v := by simpa using hy
                                                have := q6 x hx; omega⟩
  · cases b with
    | false => exact q8
    | true =>
      show wr (s.sum + gD (heT a).t s.v) = grpV (s.gr ++ [(s.v : Int)]) (heT a)
      have hg : Grp (heN a).g.length s.gr := ⟨fun x hx => by have := q6 x hx; omega, q7⟩
      have hb := grpV_bd (N := heN a) (T := heT a) hg (by omega) fun j hj => by have := (hm.t j hj).1; omega
      have ht := (hm.t s.v hv).1
      rw [grpV_add, q8, Int.toNat_natCast]
      exact w64 (by omega) (by omega)
theorem he_lv (a : BB) (s : HI) (b : Bool) : (heGo a s b).lv.length = s.lv.length + 1 ∧ ∀ i, i < s.lv.length + 1 → gD (heGo a s b).lv i = bif decide (i < s.lv.length) then gD s.lv i else witV s.s (-1) 1 := by
  refine ⟨by simp [heGo], fun i hi => ?_⟩
  show gD (s.lv ++ [_]) i = _
  rw [gD_append]
  by_cases h : i < s.lv.length
  · simp [h]
  · have : i - s.lv.length = 0 := by omega
    simp only [h, if_false, decide_false, cond_false, this]; rfl
theorem he_gr (a : BB) (s : HI) : (heGo a s true).gr.length = s.gr.length + 1 ∧ (heGo a s true).gr ≠ [] ∧ ∀ i, i < s.gr.length + 1 → gD (heGo a s true).gr i = bif decide (i < s.gr.length) then gD s.gr i else (s.v : Int) := by
  refine ⟨by simp [heGo], by simp [heGo], fun i hi => ?_⟩
  show gD (s.gr ++ [_]) i = _
  rw [gD_append]
  by_cases h : i < s.gr.length
  · simp [h]
  · have : i - s.gr.length = 0 := by omega
    simp only [h, if_false, decide_false, cond_false, this]; rfl
theorem he_prov {a : BB} (hC : Can (heN a) (heT a)) (lv : List Int) : (bif bif provE ⟨heN a, 1, lv⟩ != 0 then provE ⟨heN a, 1, lv⟩ != 2 else false then true else decide (provE ⟨heN a, 1, lv⟩ = 0) && decide (1 ≤ provedM (heN a) lv)) = false := by
  have hn := prov_none hC lv (p := 1) (by omega)
  rw [hn]
  rcases prov_err (net_vals hC).1 lv 1 with e | e <;> rw [e] <;> rfl
theorem he_grp {a : BB} (hm : Made (heN a) (heT a) 7) {gs : List Nat} {s : HI} (h : heInv a gs s) (hv : ¬ s.v < (heN a).g.length) (hne : s.gr ≠ []) : s.gr.length ≤ 1000000 ∧ (bif bif grpE ⟨heN a, s.gr⟩ != 0 then true else decide (s.sum < (grpT ⟨heN a, s.gr⟩).lo) then true else decide (s.sum > (grpT ⟨heN a, s.gr⟩).hi)) = false := by
  obtain ⟨q1, q2, q3, q4, q5, ⟨q6, q7⟩, q8⟩ := h
  have g7 := hm.gm
  have hC := hm.can (by omega)
  obtain ⟨n1, n2, _⟩ := net_vals hC
  have hg : Grp (heN a).g.length s.gr := ⟨fun x hx => by have := q6 x hx; omega, q7⟩
  have hb := (grp_of ⟨hm.g1, by omega⟩).2 hg
  have hl : s.gr.length ≠ 0 := fun h => hne (List.eq_nil_of_length_eq_zero h)
  have hE : grpE ⟨heN a, s.gr⟩ = 0 := grpE_zero.2 ⟨n1, hb, hl, n2⟩
  have hT : grpT ⟨heN a, s.gr⟩ = grpS ⟨heN a, s.gr⟩ := by unfold grpT; rw [if_pos hE]
  obtain ⟨_, hS⟩ := group_span n1 n2 hb
  have hA := hS.all _ hC
  have := grp_len hg
  refine ⟨by omega, ?_⟩
  rw [hE, hT, q8, decide_eq_false (show ¬ grpV s.gr (heT a) < (grpS ⟨heN a, s.gr⟩).lo by omega), decide_eq_false (show ¬ grpV s.gr (heT a) > (grpS ⟨heN a, s.gr⟩).hi by omega)]
  rfl
theorem p10 (a : BB) (h1 : ByOk a.a) (h2 : ByOk a.b) : V10 a := by
  have hm : Made (heN a) (heT a) 7 := mk_ok h1 (by omega)
  have hC := hm.can (by omega)
  obtain ⟨v1, v2, v3, v4, v5⟩ := can_vals hC
  obtain ⟨n1, n2, n3, n4, n5, n6⟩ := net_vals hC
  obtain ⟨z1, z2⟩ := size_N n1
  obtain ⟨z3, z4⟩ := size_T v1
  obtain ⟨e1, e2⟩ := sp_lens n1
  have hs1 := stm0 h1
  have hs2 := stm0 h2
  have gm := hm.gm
  have g1 := hm.g1
  have fl := hm.fl
  have tl := hm.tl
  have r11 := hm.r11
  rw [vc10]; delta z10_0 z10_1 z10_2 z10_3 z10_4 z10_5 z10_6 z10_7 z10_8 z10_9 z10_10 z10_11 z10_12 z10_13 z10_14 z10_15 z10_16 z10_17 z10_18 z10_19 z10_20 z10_21 z10_22 z10_23 z10_24 z10_25 z10_26 z10_27 z10_28 z10_29 z10_30 z10_31 z10_32 z10_33 z10_34 z10_35 z10_36 z10_37 z10_38 z10_39 z10_40 z10_41 z10_42 z10_43 z10_44 z10_45 z10_46 z10_47 z10_48 z10_49 z10_50 z10_51 z10_52 z10_53 z10_54 z10_55 z10_56 z10_57 z10_58 z10_59 z10_60 z10_61 z10_62 z10_63 z10_64 z10_65 z10_66 z10_67 z10_68 z10_69 z10_70 z10_71 z10_72 z10_73 z10_74 z10_75 z10_76 z10_77 z10_78 z10_79 z10_80 z10_81 z10_82 z10_83 z10_84 z10_85 z10_86 z10_87 z10_88 z10_89 z10_90 z10_91 z10_92 z10_93 z10_94 z10_95 z10_96 z10_97 z10_98 z10_99 z10_100 z10_101 z10_102 z10_103 z10_104 z10_105 z10_106 z10_107 z10_108 z10_109 z10_110 z10_111 z10_112 z10_113 z10_114 z10_115 z10_116 z10_117 z10_118 z10_119 z10_120 z10_121 z10_122 z10_123 z10_124 z10_125 z10_126 z10_127 z10_128 z10_129 z10_130 z10_131 z10_132 z10_133 z10_134 z10_135 z10_136 z10_137 z10_138 z10_139 z10_140 z10_141 z10_142 z10_143 z10_144 z10_145 z10_146 z10_147 z10_148 z10_149 z10_150 z10_151 z10_152 z10_153 z10_154 z10_155 z10_156 z10_157 z10_158 z10_159 z10_160 z10_161 z10_162 z10_163 z10_164 z10_165; simp only [condP, eq_self, implies_true, and_self, true_and, and_true, true_implies, forall_const, decide_eq_true_eq, decide_eq_false_iff_not, Int.toNat_natCast, dSpan_eSpan, dReach_eReach, dWay_eWay, dStep_eStep, dFar_eFar, dInt_eInt, Nat.zero_add, Int.zero_sub, Nat.le_eq, Nat.succ_eq_add_one, Nat.add_one_le_iff, Bool.not_eq_true', Bool.not_eq_false', rng_length, dSpan_mk, dReach_mk, dWay_mk, dStep_mk, dFar_mk, rng_getD, DL.m2, DL.d1, DL.d2, DL.d7, DL.d8, he1, he2, v1, v2, v3, v4, v5, n1, n3, n4, n5, n6, bne_self_eq_false, cond_false, cond_true, Bool.not_true, Bool.false_eq_true, false_implies, true_implies, BEq.rfl, e1, e2, he_prov hC]
  have cont : ∀ (a5 : HK) (s : HI), heInv a [6 - a5.k] s → a5.k < 6 → ∃ a1 : HK, ((a1.k : Int) = IntKind.i64.wrap ((s.k : Int) + 1) ∧ a1.s.bs.length = s.s.bs.length ∧ (∀ i : Nat, i < a1.s.bs.length → gD a1.s.bs i = gD s.s.bs i) ∧ a1.s.used = s.s.used ∧ a1.s.mix = s.s.mix) ∧ (a1.k ≤ 6 ∧ StmB (100 * (a1.k : Int)) a1.s) ∧ 6 - a1.k < 6 - a5.k := fun a5 s h hk => by
    obtain ⟨q1, q2, q3, q4, q5, _⟩ := h
    have q2 : 6 - s.k = 6 - a5.k := q2
    exact ⟨⟨s.s, s.k + 1⟩, ⟨(wsucc (by omega)).symm, rfl, fun _ _ => rfl, rfl, rfl⟩, ⟨by show s.k + 1 ≤ 6; omega, q5.mono (by show _ ≤ 100 * ((s.k + 1 : Nat) : Int); omega)⟩, by show 6 - (s.k + 1) < _; omega⟩
  refine ⟨⟨rfl, hs1.mono (by omega), by omega, by omega⟩, ⟨⟨z1, z2⟩, z3, z4⟩, ⟨⟨z1, z2⟩, z3, z4⟩, ⟨⟨z1, z2⟩, z3, z4⟩, ?_⟩
  refine ⟨fun h => (by simp at h), fun _ => ⟨⟨0, rfl, Nat.zero_le _⟩, fun k hk => ⟨fun hlt => ?F, fun hge => ⟨⟨0, rfl, Nat.zero_le _⟩, fun j hj => ⟨fun hlt => ?G, fun hge => ⟨⟨⟨⟨a.b, 0, 0⟩, 0⟩, ⟨rfl, rfl, fun _ _ => rfl, rfl, rfl⟩, Nat.zero_le _, hs2.mono (by simp only; omega)⟩, fun a5 ⟨hk5, hs5⟩ hlt5 => ?O⟩⟩⟩⟩⟩⟩
  case F =>
    have hk : k < (heN a).r.length := by omega
    have hA := (flow_span n1 n2 hk).all _ hC
    obtain ⟨_, c2, _, _⟩ := (can_iff n1).1 hC
    obtain ⟨Tl, cl, el⟩ := (flow_span n1 n2 hk).lo
    obtain ⟨Th, ch, eh⟩ := (flow_span n1 n2 hk).hi
    have bl := ((can_iff n1).1 cl).2.1 k hk
    have bh := ((can_iff n1).1 ch).2.1 k hk
    rw [decide_eq_false (show ¬ gD (heT a).f k < (gD (spF (heN a)) k).lo by omega), decide_eq_false (show ¬ gD (heT a).f k > (gD (spF (heN a)) k).hi by omega), decide_eq_false (show ¬ (gD (spF (heN a)) k).lo < (gD (heN a).r k).sp.lo by omega), decide_eq_false (show ¬ (gD (spF (heN a)) k).hi > (gD (heN a).r k).sp.hi by omega)]
    exact ⟨⟨by omega, by omega⟩, ⟨⟨by omega, by omega⟩, fun _ => ⟨by omega, by omega⟩⟩, fun h => (by cases h), fun _ => ⟨k + 1, (wsucc (by omega)).symm, by omega, by omega⟩⟩
  case G =>
    have hk : j < (heN a).g.length := by omega
    have hA := (gain_span n1 n2 hk).all _ hC
    obtain ⟨Tl, cl, el⟩ := (gain_span n1 n2 hk).lo
    obtain ⟨Th, ch, eh⟩ := (gain_span n1 n2 hk).hi
    have bl := ((can_iff n1).1 cl).2.2.1 j hk
    have bh := ((can_iff n1).1 ch).2.2.1 j hk
    rw [decide_eq_false (show ¬ gD (heT a).t j < (gD (spG (heN a)) j).lo by omega), decide_eq_false (show ¬ gD (heT a).t j > (gD (spG (heN a)) j).hi by omega), decide_eq_false (show ¬ (gD (spG (heN a)) j).lo < (gD (heN a).g j).lo by omega), decide_eq_false (show ¬ (gD (spG (heN a)) j).hi > (gD (heN a).g j).hi by omega)]
    exact ⟨⟨by omega, by omega⟩, ⟨⟨by omega, by omega⟩, fun _ => ⟨by omega, by omega⟩⟩, fun h => (by cases h), fun _ => ⟨j + 1, (wsucc (by omega)).symm, by omega, by omega⟩⟩
  case O =>
    have hlt5 : a5.k < 6 := by omega
    refine ⟨⟨⟨a5.s, [], [], 0, 0, a5.k⟩, ⟨rfl, rfl, rfl, rfl, fun _ _ => rfl, rfl, rfl⟩, ⟨hlt5, rfl, Nat.zero_le _, rfl, hs5.mono (by simp only; omega), ⟨fun x hx => (by cases hx), List.Pairwise.nil⟩, rfl⟩, rfl, rfl⟩, ?H0, ?H1, ?H2⟩
    case H0 =>
      intro s ⟨h, hv0, hg0⟩
      have h : heInv a [6 - a5.k] s := h
      obtain ⟨q1, q2, q3, q4, q5, q6, q8⟩ := id h
      refine ⟨fun hlt => ?_, fun hge => by omega⟩
      have t1 := q5.next (by omega) (witN (-1) 1)
      have hll : s.lv.length = 0 := by omega
      have hgl : s.gr.length = 0 := by rw [hg0]; rfl
      refine ⟨⟨rfl, rfl, q5.used.1, by decide, by decide, by decide, by decide, by decide⟩, ⟨rfl, t1.used.1⟩, fun hb => ?_, fun hb => ?_⟩
      · obtain ⟨l1, l2⟩ := he_lv a s true
        obtain ⟨r1, r2, r3⟩ := he_gr a s
        refine ⟨⟨by decide, by decide, by decide, by decide, by decide⟩, ⟨by omega, by omega⟩, heGo a s true, ⟨rfl, by omega, by omega, rfl, (wsucc (by omega)).symm, rfl, fun _ _ => rfl, rfl, rfl, by omega, fun i hi => ?_, by omega, fun i hi => ?_⟩, ⟨he_go hm h (by omega) true, r2⟩, by simp only [heGo]; omega⟩
        · have := l2 i (by omega)
          rw [decide_eq_false (show ¬ i < s.lv.length by omega)] at this; exact this
        · have := r3 i (by omega)
          rw [decide_eq_false (show ¬ i < s.gr.length by omega)] at this; exact this
      · obtain ⟨l1, l2⟩ := he_lv a s false
        refine ⟨heGo a s false, ⟨rfl, by omega, rfl, (wsucc (by omega)).symm, rfl, fun _ _ => rfl, rfl, rfl, by omega, fun i hi => ?_⟩, ⟨he_go hm h (by omega) false, hg0⟩, by simp only [heGo]; omega⟩
        have := l2 i (by omega)
        rw [decide_eq_false (show ¬ i < s.lv.length by omega)] at this; exact this
    case H1 =>
      intro s ⟨h, hg0⟩
      have h : heInv a [6 - a5.k] s := h
      obtain ⟨q1, q2, q3, q4, q5, q6, q8⟩ := id h
      have hgl : s.gr.length = 0 := by rw [hg0]; rfl
      refine ⟨fun hlt => ?_, fun hge => ⟨⟨rfl, Nat.le_refl _, by omega⟩, cont a5 s h hlt5⟩⟩
      have t1 := q5.next (by omega) (witN (-1) 1)
      refine ⟨⟨rfl, rfl, q5.used.1, by decide, by omega, by omega⟩, ⟨rfl, t1.used.1⟩, fun hb => ?_, fun hb => ?_⟩
      · obtain ⟨l1, l2⟩ := he_lv a s true
        obtain ⟨r1, r2, r3⟩ := he_gr a s
        refine ⟨⟨by decide, by decide, by decide, by decide, by decide⟩, ⟨by omega, by omega⟩, heGo a s true, ⟨rfl, by omega, by omega, rfl, (wsucc (by omega)).symm, rfl, fun _ _ => rfl, rfl, rfl, by omega, fun i hi => l2 i (by omega), by omega, fun i hi => ?_⟩, ⟨he_go hm h (by omega) true, r2⟩, by simp only [heGo]; omega⟩
        have := r3 i (by omega)
        rw [decide_eq_false (show ¬ i < s.gr.length by omega)] at this; exact this
      · obtain ⟨l1, l2⟩ := he_lv a s false
        exact ⟨heGo a s false, ⟨rfl, by omega, rfl, (wsucc (by omega)).symm, rfl, fun _ _ => rfl, rfl, rfl, by omega, fun i hi => l2 i (by omega)⟩, ⟨he_go hm h (by omega) false, hg0⟩, by simp only [heGo]; omega⟩
    case H2 =>
      intro s ⟨h, hg0⟩
      have h : heInv a [6 - a5.k] s := h
      obtain ⟨q1, q2, q3, q4, q5, q6, q8⟩ := id h
      refine ⟨fun hlt => ?_, fun hge => ?_⟩
      · have t1 := q5.next (by omega) (witN (-1) 1)
        have hgl : s.gr.length ≤ (heN a).g.length := grp_len (n := (heN a).g.length) ⟨fun x hx => by have := q6.1 x hx; omega, q6.2⟩
        refine ⟨⟨rfl, rfl, q5.used.1, by decide, by omega, by omega⟩, ⟨rfl, t1.used.1⟩, fun hb => ?_, fun hb => ?_⟩
        · obtain ⟨l1, l2⟩ := he_lv a s true
          obtain ⟨r1, r2, r3⟩ := he_gr a s
          exact ⟨⟨by decide, by omega, by omega⟩, ⟨by omega, by omega⟩, heGo a s true, ⟨rfl, by omega, by omega, rfl, (wsucc (by omega)).symm, rfl, fun _ _ => rfl, rfl, rfl, by omega, fun i hi => l2 i (by omega), by omega, fun i hi => r3 i (by omega)⟩, ⟨he_go hm h (by omega) true, r2⟩, by simp only [heGo]; omega⟩
        · obtain ⟨l1, l2⟩ := he_lv a s false
          exact ⟨heGo a s false, ⟨rfl, by omega, rfl, rfl, (wsucc (by omega)).symm, rfl, fun _ _ => rfl, rfl, rfl, by omega, fun i hi => l2 i (by omega), rfl, fun _ _ => rfl⟩, ⟨he_go hm h (by omega) false, hg0⟩, by simp only [heGo]; omega⟩
      · obtain ⟨b1, b2⟩ := he_grp hm h (by omega) hg0
        have hne : s.gr.length ≠ 0 := fun h => hg0 (List.eq_nil_of_length_eq_zero h)
        rw [b2]
        refine ⟨⟨rfl, Nat.le_refl _, by omega⟩, fun hz => ?_, fun _ => ⟨⟨Nat.le_refl _, b1⟩, fun h => (by cases h), fun _ => cont a5 s h hlt5⟩⟩
        have : (s.gr.length : Int) = 0 := by simpa using hz
        omega
theorem c10 (a : BB) (h1 : ByOk a.a) (h2 : ByOk a.b) : FnT Try.prog 10 (xsBB a) (heapOf []) (.bool true) [] :=
  fnt (A := A10 a) (ren := []) (fz := []) Try.func10 (by kernel_rfl) (gok_cons ok30 (gok_cons ok29 (gok_cons ok46t (gok_cons ok48t (gok_cons ok42t (gok_cons ok34t (gok_cons ok20t (gok_cons ok43 (gok_cons ok33 (gok_cons ok24t (gok_cons ok35t (gok_cons ok14 gok_nil)))))))))))) (p10 a h1 h2)
end Go.Bal
