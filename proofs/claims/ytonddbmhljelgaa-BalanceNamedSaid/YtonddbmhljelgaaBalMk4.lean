/- Nets that are made, with reaches of one's own. -/
import Derived.Test.YtonddbmhljelgaaBalMk2
set_option linter.unusedVariables false
set_option linter.unusedSimpArgs false
namespace Go.Bal
open Go Go.Sym Go.Proofs
def gdObjO (a : SN) (x y : AVal) (s : GK2) : List (Nat × HCell) := [(100, stmH s.a.s), (201, nilB2), (202, nilB2), (203, .live (.box [x, .own 206 4 0 (mdR a).r.length])), (204, .live (.box [.d (eIntsL (mdR a).f), y])), (205, rowL (mdSt a).toNat (mdR a).m), (206, rowR (mdR a).r)]
def A29o (a : SN) : Ann := { ann 122 [(33, C33.spec d33), (43, C43.spec d43)] with E := [100], mt := fun id => id == 12 || id == 18, cutIn := fun gs id => if id = 14 then some [{ α := Stm, dflt := default, T := fun s => ⟨mdSl0 (mdSt a), gdObjO a (.d nilL) (.d nilL) ⟨⟨s, [], []⟩, 0⟩⟩, inv := fun s => gdCut a s, meas := fun _ => 0, ffz := [207] }] else none, loops := fun id => if id = 6 then some [{ α := MK, dflt := default, T := fun s => ⟨mdSl (.int s.k) 10 (mdSt a), [(100, stmH s.a.s), (201, nilB2), (202, nilB2), (203, nilB2), (204, nilB2), (205, rowL (mdSt a).toNat s.a.m)]⟩, inv := fun s => mdInv a s ∧ s.a.r = [] ∧ s.a.f = [], meas := fun s => s.k, first := [(201, 1000), (202, 1016), (203, 2000), (204, 3000), (205, 5016)] }, { α := MK, dflt := default, T := fun s => ⟨mdSl (.int s.k) 10 (mdSt a), [(100, stmH s.a.s), (201, nilB2), (202, nilB2), (203, .live (.box [.d nilL, .own 206 4 0 s.a.r.length])), (204, .live (.box [.own 207 1 0 s.a.f.length, .d nilL])), (205, rowL (mdSt a).toNat s.a.m), (206, rowR s.a.r), (207, rowL s.a.f.length s.a.f)]⟩, inv := fun s => mdInv a s, meas := fun s => s.k, again := [(206, 13064), (207, 13144)] }] else if id = 15 then some [{ α := GK2, dflt := default, T := fun s => ⟨mdSl (.int s.k) 13 (mdSt a), gdObjO a (.d nilL) (.d nilL) s⟩, inv := fun s => gdInv a s ∧ s.k = 0, meas := fun s => (mdSt a).toNat - s.k }, { α := GK2, dflt := default, T := fun s => ⟨mdSl (.int s.k) 13 (mdSt a), gdObjO a (.own 208 2 0 s.a.g.length) (.own 209 1 0 s.a.t.length) s ++ [(208, rowS s.a.g.length s.a.g), (209, rowL s.a.t.length s.a.t)]⟩, inv := fun s => gdInv a s, meas := fun s => (mdSt a).toNat - s.k, again := [(208, 19192), (209, 19272)] }] else none }
def C29o : Ctr := { α := SN, xs := fun a => [.bptr 100 0, .int a.n], L := fun a => [(100, stmO a.s)], val := fun a => .tup [.agg [.d (eSpansL (madeN a).g), .own 0 4 0 (madeN a).r.length], .d (eTruthL (madeTr a))], keep := fun a => [(0, rowR (madeN a).r), (100, stmH (mdG a).s)], pre := fun a => [StmB 1000000000 a.s, 1 ≤ a.n ∧ a.n ≤ 8, (madeN a).r.length ≠ 0] }
def V29o (a : SN) : Prop := fnVC Try.prog (A29o a) Try.f29 (bodyOf Try.f29) (C29o.xs a) (heapOf (C29o.L a)) (C29o.val a) (C29o.keep a) [(0, 206)] [208, 209]
abbrev z29o_0 : Prop := (1 : Int) = Int.ofNat (1 : Nat)
abbrev z29o_1 (a : SN) : List Int := rng a.s.bs.length fun (i : Nat) => gD a.s.bs i
abbrev z29o_2 (a : SN) : Nat := (z29o_1 a).length
abbrev z29o_3 (a : SN) : Stm := Stm.mk (z29o_1 a) a.s.used a.s.mix
abbrev z29o_4 (a : SN) : Int := witV (z29o_3 a) (1 : Int) a.n
abbrev z29o_5 (a : SN) : Stm := witS (z29o_3 a) (1 : Int) a.n
abbrev z29o_6 (a : SN) : List Int := (z29o_5 a).bs
abbrev z29o_7 (a : SN) : Nat := (z29o_6 a).length
abbrev z29o_8 (a : SN) (i : Nat) : Int := gD (z29o_6 a) i
abbrev z29o_9 (a : SN) : List Int := rng (z29o_7 a) fun (i : Nat) => z29o_8 a i
abbrev z29o_10 (a : SN) : Nat := (z29o_9 a).length
abbrev z29o_11 (a : SN) : Int := (z29o_5 a).used
abbrev z29o_12 (a : SN) : Int := (z29o_5 a).mix
abbrev z29o_13 : Prop := (0 : Nat) = (0 : Nat)
abbrev z29o_14 (a : SN) : Prop := (mdSt a).toNat = (z29o_4 a).toNat
abbrev z29o_15 (a : SN) : Stm := Stm.mk (z29o_9 a) (z29o_11 a) (z29o_12 a)
abbrev z29o_16 (a : SN) : Stm := nextS (z29o_15 a) (12 : Int)
abbrev z29o_17 (a : SN) : List Int := (z29o_16 a).bs
abbrev z29o_18 (i : Nat) (a : MK) : Prop := i < a.a.s.bs.length
abbrev z29o_19 : Prop := ∀ (i : Nat), i < (0 : Nat) → false = false
abbrev z29o_20 (a : SN) : Prop := (1 : Int) ≤ mdSt a ∧ mdSt a ≤ (8 : Int)
abbrev z29o_21 (a : SN) (a1 : MK) : Prop := z29o_20 a ∧ StmB ((2000000000 : Int) - (10 : Int) * (↑a1.k : Int)) a1.a.s ∧ a1.k ≤ (11 : Nat) ∧ a1.a.r.length = a1.a.f.length ∧ a1.a.r.length + a1.k ≤ (11 : Nat) ∧
 a1.a.m.length = (mdSt a).toNat ∧ (if (1 : Int) < mdSt a then madeRs a1.k (mdSt a) a1.a else a1.a) = mdR a
abbrev z29o_22 (a : SN) (a1 : MK) : Prop := z29o_21 a a1 ∧ a1.a.r = [] ∧ a1.a.f = []
abbrev z29o_23 (a : MK) (a1 : SN) : Bool := bif decide ((↑a.k : Int) > (0 : Int)) then decide (mdSt a1 > (1 : Int)) else false
abbrev z29o_24 (a : MK) : List Int := rng a.a.s.bs.length fun (i : Nat) => gD a.a.s.bs i
abbrev z29o_25 (a : MK) : Nat := (z29o_24 a).length
abbrev z29o_26 (a : SN) (a1 : MK) : Prop := mdSt a = mdSt a ∧ z29o_25 a1 = a1.a.s.bs.length ∧ (∀ (i : Nat), i < z29o_25 a1 → gD (z29o_24 a1) i = gD a1.a.s.bs i) ∧ a1.a.s.used = a1.a.s.used ∧ a1.a.s.mix = a1.a.s.mix ∧
 (a1.a.s.used - (0 : Int)).NonNeg
abbrev z29o_27 (a : SN) : Int := IntKind.i64.wrap (mdSt a - (1 : Int))
abbrev z29o_28 (a : MK) : Stm := Stm.mk (z29o_24 a) a.a.s.used a.a.s.mix
abbrev z29o_29 (a : MK) (a1 : SN) : Stm := nextS (z29o_28 a) (mdSt a1)
abbrev z29o_30 (a : MK) (a1 : SN) : List Int := (z29o_29 a a1).bs
abbrev z29o_31 (a : MK) (a1 : SN) : Nat := (z29o_30 a a1).length
abbrev z29o_32 (a : MK) (a1 : SN) (i : Nat) : Int := gD (z29o_30 a a1) i
abbrev z29o_33 (a : MK) (a1 : SN) : List Int := rng (z29o_31 a a1) fun (i : Nat) => z29o_32 a a1 i
abbrev z29o_34 (a : MK) (a1 : SN) : Nat := (z29o_33 a a1).length
abbrev z29o_35 (a : MK) (a1 : SN) : Int := (z29o_29 a a1).used
abbrev z29o_36 (a : MK) (a1 : SN) : Int := (z29o_29 a a1).mix
abbrev z29o_37 (a : SN) (a1 : MK) : Prop := z29o_0 ∧ z29o_27 a = z29o_27 a ∧ z29o_34 a1 a = z29o_31 a1 a ∧ (∀ (i : Nat), i < z29o_34 a1 a → gD (z29o_33 a1 a) i = z29o_32 a1 a i) ∧ z29o_35 a1 a = z29o_35 a1 a ∧ z29o_36 a1
 a = z29o_36 a1 a ∧ (0 : Int) ≤ z29o_35 a1 a ∧ (mdSt a = (0 : Int) → False)
abbrev z29o_38 (a : MK) (a1 : SN) : Stm := Stm.mk (z29o_33 a a1) (z29o_35 a a1) (z29o_36 a a1)
abbrev z29o_39 (a : MK) (a1 : SN) : Stm := witS (z29o_38 a a1) (1 : Int) (z29o_27 a1)
abbrev z29o_40 (a : MK) (a1 : SN) : List Int := (z29o_39 a a1).bs
abbrev z29o_41 (a : MK) (a1 : SN) : Nat := (z29o_40 a a1).length
abbrev z29o_42 (a : MK) (a1 : SN) (i : Nat) : Int := gD (z29o_40 a a1) i
abbrev z29o_43 (a : MK) (a1 : SN) : List Int := rng (z29o_41 a a1) fun (i : Nat) => z29o_42 a a1 i
abbrev z29o_44 (a : MK) (a1 : SN) : Nat := (z29o_43 a a1).length
abbrev z29o_45 (a : MK) (a1 : SN) : Int := (z29o_39 a a1).used
abbrev z29o_46 (a : MK) (a1 : SN) : Int := (z29o_39 a a1).mix
abbrev z29o_47 (a : MK) (a1 : SN) : Prop := (-20 : Int) = Int.negSucc (19 : Nat) ∧ (120 : Int) = Int.ofNat (120 : Nat) ∧ z29o_44 a a1 = z29o_41 a a1 ∧ (∀ (i : Nat), i < z29o_44 a a1 → gD (z29o_43 a a1) i = z29o_42 a a1
 i) ∧ z29o_45 a a1 = z29o_45 a a1 ∧ z29o_46 a a1 = z29o_46 a a1 ∧ (z29o_45 a a1 - (0 : Int)).NonNeg
abbrev z29o_48 : Prop := (9 : Int) = Int.ofNat (9 : Nat)
abbrev z29o_49 (a : MK) (a1 : SN) : Stm := Stm.mk (z29o_43 a a1) (z29o_45 a a1) (z29o_46 a a1)
abbrev z29o_50 (a : MK) (a1 : SN) : Stm := witS (z29o_49 a a1) (-20 : Int) (120 : Int)
abbrev z29o_51 (a : MK) (a1 : SN) : List Int := (z29o_50 a a1).bs
abbrev z29o_52 (a : MK) (a1 : SN) : Nat := (z29o_51 a a1).length
abbrev z29o_53 (a : MK) (a1 : SN) (i : Nat) : Int := gD (z29o_51 a a1) i
abbrev z29o_54 (a : MK) (a1 : SN) : List Int := rng (z29o_52 a a1) fun (i : Nat) => z29o_53 a a1 i
abbrev z29o_55 (a : MK) (a1 : SN) : Nat := (z29o_54 a a1).length
abbrev z29o_56 (a : MK) (a1 : SN) : Int := (z29o_50 a a1).used
abbrev z29o_57 (a : MK) (a1 : SN) : Int := (z29o_50 a a1).mix
abbrev z29o_58 (a : MK) (a1 : SN) : Stm := Stm.mk (z29o_54 a a1) (z29o_56 a a1) (z29o_57 a a1)
abbrev z29o_59 (a : MK) (a1 : SN) : Stm := nextS (z29o_58 a a1) (9 : Int)
abbrev z29o_60 (a : MK) (a1 : SN) : List Int := (z29o_59 a a1).bs
abbrev z29o_61 (a : MK) (a1 : SN) : Nat := (z29o_60 a a1).length
abbrev z29o_62 (a : MK) (a1 : SN) (i : Nat) : Int := gD (z29o_60 a a1) i
abbrev z29o_63 (a : MK) (a1 : SN) : List Int := rng (z29o_61 a a1) fun (i : Nat) => z29o_62 a a1 i
abbrev z29o_64 (a : MK) (a1 : SN) : Nat := (z29o_63 a a1).length
abbrev z29o_65 (a : MK) (a1 : SN) : Int := (z29o_59 a a1).used
abbrev z29o_66 (a : MK) (a1 : SN) : Int := (z29o_59 a a1).mix
abbrev z29o_67 (a : MK) (a1 : SN) : Prop := z29o_48 ∧ z29o_55 a a1 = z29o_52 a a1 ∧ (∀ (i : Nat), i < z29o_55 a a1 → gD (z29o_54 a a1) i = z29o_53 a a1 i) ∧ z29o_56 a a1 = z29o_56 a a1 ∧ z29o_57 a a1 = z29o_57 a a1 ∧ (0
 : Int) ≤ z29o_56 a a1 ∧ z29o_48 ∧ z29o_64 a a1 = z29o_61 a a1 ∧ (∀ (i : Nat), i < z29o_64 a a1 → gD (z29o_63 a a1) i = z29o_62 a a1 i) ∧ z29o_65 a a1 = z29o_65 a a1 ∧ z29o_66 a a1 = z29o_66 a a1 ∧ (z29o_65 a a1 - (0 :
 Int)).NonNeg
abbrev z29o_68 : Prop := (0 : Nat) < (0 : Nat)
abbrev z29o_69 : Prop := (1 : Nat) ≤ (1 : Nat)
abbrev z29o_70 : Prop := (0 : Nat) < (1 : Nat)
abbrev z29o_71 : Prop := (4 : Nat) = (4 : Nat)
abbrev z29o_72 : Prop := z29o_69 ∧ (z29o_70 → z29o_71)
abbrev z29o_73 : Prop := true = true → z29o_70
abbrev z29o_74 : Prop := (1 : Nat) ≤ (9223372036854775807 : Nat)
abbrev z29o_75 : Prop := (1 : Nat) = (1 : Nat)
abbrev z29o_76 : Prop := z29o_69 ∧ (z29o_70 → z29o_75)
abbrev z29o_77 : Prop := (True ∧ (z29o_68 → (0 : Nat) = (1 : Nat))) ∧ z29o_76 ∧ z29o_73 ∧ z29o_74 ∧ (8 : Nat) ≤ (140737488355328 : Nat)
abbrev z29o_78 (a : MK) (a1 : SN) : Int := nextV (z29o_28 a) (mdSt a1)
abbrev z29o_79 (a : MK) (a1 : SN) : Prop := (0 : Int) ≤ z29o_78 a a1 ∧ z29o_78 a a1 < (↑(mdSt a1).toNat : Int)
abbrev z29o_80 (a : MK) (a1 : SN) : Nat := (0 : Nat) + (z29o_78 a a1).toNat
abbrev z29o_81 (a : MK) (a1 : SN) : Prop := z29o_80 a a1 < (mdSt a1).toNat
abbrev z29o_82 (a : MK) (a1 : SN) : Int := (IntKind.i64.wrap (z29o_78 a a1 + witV (z29o_38 a a1) (1 : Int) (z29o_27 a1))).tmod (mdSt a1)
abbrev z29o_83 (a : MK) (a1 : SN) : Prop := (0 : Int) ≤ z29o_82 a a1 ∧ z29o_82 a a1 < (↑(mdSt a1).toNat : Int)
abbrev z29o_84 (a : MK) (a1 : SN) : Nat := (0 : Nat) + (z29o_82 a a1).toNat
abbrev z29o_85 (a : MK) (a1 : SN) : Prop := z29o_79 a a1 ∧ z29o_81 a a1 ∧ z29o_83 a a1 ∧ z29o_84 a a1 < (mdSt a1).toNat ∧ z29o_79 a a1 ∧ z29o_81 a a1 ∧ z29o_83 a a1 ∧ (z29o_84 a a1).succ.le (mdSt a1).toNat
abbrev z29o_86 (a : MK) (a1 : MK) : Prop := (↑a.k : Int) = IntKind.i64.wrap ((↑a1.k : Int) - (1 : Int))
abbrev z29o_87 (a : MK) (a1 : SN) : Stm := Stm.mk (z29o_63 a a1) (z29o_65 a a1) (z29o_66 a a1)
abbrev z29o_88 (a : MK) (a1 : SN) : Stm := nextS (z29o_87 a a1) (9 : Int)
abbrev z29o_89 (a : MK) (a1 : SN) : List Int := (z29o_88 a a1).bs
abbrev z29o_90 (a : MK) (a1 : MK) (a2 : SN) : Prop := a.a.s.bs.length = (z29o_89 a1 a2).length
abbrev z29o_91 (a : MK) (a1 : MK) (a2 : SN) : Prop := ∀ (i : Nat), z29o_18 i a → gD a.a.s.bs i = gD (z29o_89 a1 a2) i
abbrev z29o_92 (a : MK) (a1 : MK) (a2 : SN) : Prop := a.a.s.used = (z29o_88 a1 a2).used
abbrev z29o_93 (a : MK) (a1 : MK) (a2 : SN) : Prop := a.a.s.mix = (z29o_88 a1 a2).mix
abbrev z29o_94 (a : MK) : Prop := a.a.r.length = (1 : Nat)
abbrev z29o_95 (a : MK) : Prop := a.a.f.length = (1 : Nat)
abbrev z29o_96 (a : MK) (a1 : SN) : Int := witV (z29o_49 a a1) (-20 : Int) (120 : Int)
abbrev z29o_97 (a : SN) (a1 : MK) (a2 : MK) : Prop := ∀ (i : Nat), i < (mdSt a).toNat → gD a1.a.m i = bif decide (i = z29o_84 a2 a) then IntKind.i64.wrap (gD a2.a.m (z29o_84 a2 a) + z29o_96 a2 a) else bif decide (i =
 z29o_80 a2 a) then IntKind.i64.wrap (gD a2.a.m (z29o_80 a2 a) - z29o_96 a2 a) else gD a2.a.m i
abbrev z29o_98 (a : MK) (a1 : SN) : Int := IntKind.i64.wrap (z29o_96 a a1 - nextV (z29o_58 a a1) (9 : Int))
abbrev z29o_99 (a : MK) (a1 : SN) : Int := IntKind.i64.wrap (z29o_96 a a1 + nextV (z29o_87 a a1) (9 : Int))
abbrev z29o_100 (a : SN) (a1 : MK) (a2 : MK) : Prop := z29o_21 a a1 ∧ a1.k < a2.k
abbrev z29o_101 : Prop := false = true → z29o_70
abbrev z29o_102 (a : MK) : Nat := a.a.r.length + (1 : Nat)
abbrev z29o_103 (a : MK) : Nat := a.a.f.length + (1 : Nat)
abbrev z29o_104 (a : MK) (a1 : MK) : Prop := a.a.r.length = z29o_102 a1
abbrev z29o_105 (a : MK) (a1 : MK) : Prop := a.a.f.length = z29o_103 a1
abbrev z29o_106 (i : Nat) (a : MK) : Bool := decide (i < a.a.r.length)
abbrev z29o_107 (a : SN) (a1 : MK) : Prop := (mdR a).r.length = a1.a.r.length
abbrev z29o_108 (j : Nat) : Nat := (0 : Nat) + j
abbrev z29o_109 (a : SN) : Prop := (mdR a).m.length = (mdSt a).toNat
abbrev z29o_110 (a : SN) : Prop := (mdR a).r.length = (mdR a).f.length
abbrev z29o_111 (a : SN) : Prop := (mdR a).r.length ≤ (11 : Nat)
abbrev z29o_112 (a : SN) (a1 : Stm) : Prop := z29o_20 a ∧ StmB (2000000000 : Int) a1 ∧ a1 = (mdR a).s ∧ z29o_109 a ∧ z29o_110 a ∧ z29o_111 a
abbrev z29o_113 (i : Nat) (a : GK2) : Prop := i < a.a.s.bs.length
abbrev z29o_114 (a : SN) : Prop := (mdR a).r.length = (mdR a).r.length
abbrev z29o_115 (a : SN) : Prop := (mdR a).f.length = (mdR a).f.length
abbrev z29o_116 (a : SN) : Prop := ∀ (i : Nat), i < (mdR a).f.length → gD (mdR a).f i = gD (mdR a).f i
abbrev z29o_117 (a : SN) : Prop := ∀ (i : Nat), i < (mdSt a).toNat → gD (mdR a).m i = gD (mdR a).m i
abbrev z29o_118 (a : SN) : Prop := ∀ (i : Nat), i < (mdR a).r.length → (gD (mdR a).r i).fr = (gD (mdR a).r i).fr ∧ (gD (mdR a).r i).to = (gD (mdR a).r i).to ∧ (gD (mdR a).r i).sp.lo = (gD (mdR a).r i).sp.lo ∧ (gD (mdR
 a).r i).sp.hi = (gD (mdR a).r i).sp.hi
abbrev z29o_119 (a : SN) (a1 : GK2) : Prop := z29o_20 a ∧ StmB ((3000000000 : Int) + (10 : Int) * (↑a1.k : Int)) a1.a.s ∧ a1.k ≤ (mdSt a).toNat ∧ a1.a.g.length = a1.k ∧ a1.a.t.length = a1.k ∧ z29o_109 a ∧ z29o_110 a ∧
 z29o_111 a ∧ madeGs (List.drop a1.k (mdR a).m) a1.a = mdG a
abbrev z29o_120 (a : SN) (a1 : GK2) : Prop := z29o_119 a a1 ∧ a1.k = (0 : Nat)
abbrev z29o_121 (a : GK2) (a1 : SN) : Bool := decide ((↑a.k : Int) < mdSt a1)
abbrev z29o_122 (a : GK2) : Nat := (0 : Nat) + a.k
abbrev z29o_123 (a : GK2) (a1 : SN) : Prop := ((0 : Int) ≤ (↑a.k : Int) ∧ (↑a.k : Int) < (↑(mdSt a1).toNat : Int)) ∧ (z29o_122 a).succ.le (mdSt a1).toNat
abbrev z29o_124 (a : GK2) : List Int := rng a.a.s.bs.length fun (i : Nat) => gD a.a.s.bs i
abbrev z29o_125 (a : GK2) : Nat := (z29o_124 a).length
abbrev z29o_126 (a : GK2) : Prop := z29o_125 a = a.a.s.bs.length
abbrev z29o_127 (a : GK2) : Prop := ∀ (i : Nat), i < z29o_125 a → gD (z29o_124 a) i = gD a.a.s.bs i
abbrev z29o_128 (a : GK2) : Prop := a.a.s.used = a.a.s.used
abbrev z29o_129 (a : GK2) : Prop := a.a.s.mix = a.a.s.mix
abbrev z29o_130 (a : GK2) : Prop := (0 : Int) ≤ a.a.s.used
abbrev z29o_131 (a : GK2) : Stm := Stm.mk (z29o_124 a) a.a.s.used a.a.s.mix
abbrev z29o_132 (a : GK2) : Stm := nextS (z29o_131 a) (9 : Int)
abbrev z29o_133 (a : GK2) : List Int := (z29o_132 a).bs
abbrev z29o_134 (a : GK2) : Nat := (z29o_133 a).length
abbrev z29o_135 (a : GK2) (i : Nat) : Int := gD (z29o_133 a) i
abbrev z29o_136 (a : GK2) : List Int := rng (z29o_134 a) fun (i : Nat) => z29o_135 a i
abbrev z29o_137 (a : GK2) : Nat := (z29o_136 a).length
abbrev z29o_138 (a : GK2) : Prop := z29o_137 a = z29o_134 a
abbrev z29o_139 (a : GK2) : Prop := ∀ (i : Nat), i < z29o_137 a → gD (z29o_136 a) i = z29o_135 a i
abbrev z29o_140 (a : GK2) : Int := (z29o_132 a).used
abbrev z29o_141 (a : GK2) : Prop := z29o_140 a = z29o_140 a
abbrev z29o_142 (a : GK2) : Int := (z29o_132 a).mix
abbrev z29o_143 (a : GK2) : Prop := z29o_142 a = z29o_142 a
abbrev z29o_144 (a : GK2) : Prop := (0 : Int) ≤ z29o_140 a
abbrev z29o_145 : Prop := (2 : Nat) = (2 : Nat)
abbrev z29o_146 : Prop := z29o_69 ∧ (z29o_70 → z29o_145)
abbrev z29o_147 (a : GK2) (a1 : GK2) : Prop := (↑a.k : Int) = IntKind.i64.wrap ((↑a1.k : Int) + (1 : Int))
abbrev z29o_148 (a : GK2) : Stm := Stm.mk (z29o_136 a) (z29o_140 a) (z29o_142 a)
abbrev z29o_149 (a : GK2) : Stm := nextS (z29o_148 a) (9 : Int)
abbrev z29o_150 (a : GK2) : List Int := (z29o_149 a).bs
abbrev z29o_151 (a : GK2) (a1 : GK2) : Prop := a.a.s.bs.length = (z29o_150 a1).length
abbrev z29o_152 (a : GK2) (a1 : GK2) : Prop := ∀ (i : Nat), z29o_113 i a → gD a.a.s.bs i = gD (z29o_150 a1) i
abbrev z29o_153 (a : GK2) (a1 : GK2) : Prop := a.a.s.used = (z29o_149 a1).used
abbrev z29o_154 (a : GK2) (a1 : GK2) : Prop := a.a.s.mix = (z29o_149 a1).mix
abbrev z29o_155 (a : GK2) : Prop := a.a.g.length = (1 : Nat)
abbrev z29o_156 (a : GK2) : Prop := a.a.t.length = (1 : Nat)
abbrev z29o_157 (a : SN) (a1 : GK2) : Int := IntKind.i64.wrap ((0 : Int) - gD (mdR a).m (z29o_122 a1))
abbrev z29o_158 (a : SN) (a1 : GK2) : Int := IntKind.i64.wrap (z29o_157 a a1 - nextV (z29o_131 a1) (9 : Int))
abbrev z29o_159 (a : SN) (a1 : GK2) : Int := IntKind.i64.wrap (z29o_157 a a1 + nextV (z29o_148 a1) (9 : Int))
abbrev z29o_160 (a : SN) (a1 : GK2) : Nat := (mdSt a).toNat - a1.k
abbrev z29o_161 (a : SN) (a1 : GK2) (a2 : GK2) : Prop := z29o_119 a a1 ∧ z29o_160 a a1 < z29o_160 a a2
abbrev z29o_162 (a : SN) : Prop := (madeN a).g.length = (0 : Nat)
abbrev z29o_163 (a : SN) : Prop := (madeN a).r.length = (mdR a).r.length
abbrev z29o_164 (a : SN) : Prop := (madeTr a).f.length = (mdR a).f.length
abbrev z29o_165 (a : SN) : Prop := ∀ (i : Nat), i < (madeTr a).f.length → gD (madeTr a).f i = gD (mdR a).f i
abbrev z29o_166 (a : SN) : Prop := (madeTr a).t.length = (0 : Nat)
abbrev z29o_167 (a : SN) (a1 : GK2) : Prop := z29o_163 a ∧ (∀ (i : Nat), i < (madeN a).r.length → (gD (madeN a).r i).fr = (gD (mdR a).r i).fr ∧ (gD (madeN a).r i).to = (gD (mdR a).r i).to ∧ (gD (madeN a).r i).sp.lo = (gD
 (mdR a).r i).sp.lo ∧ (gD (madeN a).r i).sp.hi = (gD (mdR a).r i).sp.hi) ∧ (mdG a).s.bs.length = a1.a.s.bs.length ∧ (∀ (i : Nat), i < (mdG a).s.bs.length → gD (mdG a).s.bs i = gD a1.a.s.bs i) ∧ (mdG a).s.used =
 a1.a.s.used ∧ (mdG a).s.mix = a1.a.s.mix
abbrev z29o_168 (a : GK2) : Nat := a.a.g.length + (1 : Nat)
abbrev z29o_169 (a : GK2) : Nat := a.a.t.length + (1 : Nat)
abbrev z29o_170 (a : GK2) (a1 : GK2) : Prop := a.a.g.length = z29o_168 a1
abbrev z29o_171 (a : GK2) (a1 : GK2) : Prop := a.a.t.length = z29o_169 a1
abbrev z29o_172 (i : Nat) (a : GK2) : Bool := decide (i < a.a.g.length)
abbrev z29o_173 (a : GK2) (j : Nat) : Span := gD a.a.g (z29o_108 j)
theorem vc29o (a : SN) : (V29o a) = ((z29o_0 ∧ a.n = a.n ∧ z29o_2 a = a.s.bs.length ∧ (∀ (i : Nat), i < z29o_2 a → gD (z29o_1 a) i = gD a.s.bs i) ∧ a.s.used = a.s.used ∧ a.s.mix = a.s.mix ∧ (a.s.used - (0 : Int)).NonNeg)
 ∧ ((0 : Int) ≤ z29o_4 a ∧ z29o_4 a = z29o_4 a ∧ z29o_4 a ≤ (9223372036854775807 : Int) ∧ (↑(8 : Nat) : Int) * z29o_4 a ≤ (281474976710656 : Int)) ∧ (((12 : Int) = Int.ofNat (12 : Nat) ∧ z29o_10 a = z29o_7 a ∧ (∀ (i :
 Nat), i < z29o_10 a → gD (z29o_9 a) i = z29o_8 a i) ∧ z29o_11 a = z29o_11 a ∧ z29o_12 a = z29o_12 a ∧ (z29o_11 a - (0 : Int)).NonNeg) ∧ (∃ (a_1 : MK), (mdSt a = z29o_4 a ∧ z29o_13 ∧ z29o_14 a ∧ (↑a_1.k : Int) = nextV
 (z29o_15 a) (12 : Int) ∧ a_1.a.s.bs.length = (z29o_17 a).length ∧ (∀ (i : Nat), z29o_18 i a_1 → gD a_1.a.s.bs i = gD (z29o_17 a) i) ∧ a_1.a.s.used = (z29o_16 a).used ∧ a_1.a.s.mix = (z29o_16 a).mix ∧ z29o_13 ∧ z29o_19 ∧
 z29o_13 ∧ z29o_19 ∧ z29o_13 ∧ z29o_19 ∧ z29o_13 ∧ z29o_19 ∧ z29o_13 ∧ z29o_19 ∧ z29o_13 ∧ z29o_19 ∧ z29o_13 ∧ z29o_19 ∧ z29o_13 ∧ z29o_19 ∧ z29o_14 a ∧ ∀ (i : Nat), i < (mdSt a).toNat → gD a_1.a.m i = (0 : Int)) ∧
 z29o_22 a a_1) ∧ (∀ (a_1 : MK), z29o_22 a a_1 → bif z29o_23 a_1 a then z29o_26 a a_1 ∧ z29o_37 a a_1 ∧ z29o_47 a_1 a ∧ z29o_67 a_1 a ∧ (((True ∧ (z29o_68 → (0 : Nat) = (4 : Nat))) ∧ z29o_72 ∧ z29o_73 ∧ z29o_74 ∧ (32 :
 Nat) ≤ (140737488355328 : Nat)) ∧ z29o_77) ∧ z29o_85 a_1 a ∧ ∃ (a_3 : MK), (mdSt a = mdSt a ∧ z29o_13 ∧ (mdSt a).toNat = (mdSt a).toNat ∧ z29o_86 a_3 a_1 ∧ z29o_90 a_3 a_1 a ∧ z29o_91 a_3 a_1 a ∧ z29o_92 a_3 a_1 a ∧
 z29o_93 a_3 a_1 a ∧ z29o_13 ∧ z29o_19 ∧ z29o_13 ∧ z29o_19 ∧ z29o_13 ∧ z29o_19 ∧ z29o_13 ∧ z29o_19 ∧ z29o_13 ∧ z29o_19 ∧ z29o_13 ∧ z29o_94 a_3 ∧ z29o_13 ∧ z29o_95 a_3 ∧ z29o_13 ∧ z29o_19 ∧ (mdSt a).toNat = (mdSt a).toNat
 ∧ z29o_97 a a_3 a_1 ∧ z29o_94 a_3 ∧ (∀ (i : Nat), i < a_3.a.r.length → (gD a_3.a.r i).fr = z29o_78 a_1 a ∧ (gD a_3.a.r i).to = z29o_82 a_1 a ∧ (gD a_3.a.r i).sp.lo = z29o_98 a_1 a ∧ (gD a_3.a.r i).sp.hi = z29o_99 a_1 a)
 ∧ z29o_95 a_3 ∧ ∀ (i : Nat), i < a_3.a.f.length → gD a_3.a.f i = z29o_96 a_1 a) ∧ z29o_100 a a_3 a_1 else False) ∧ ∀ (a_1 : MK), z29o_21 a a_1 → bif z29o_23 a_1 a then z29o_26 a a_1 ∧ z29o_37 a a_1 ∧ z29o_47 a_1 a ∧
 z29o_67 a_1 a ∧ (((a_1.a.r.length = a_1.a.r.length ∧ ((0 : Nat) < a_1.a.r.length → z29o_71)) ∧ z29o_72 ∧ z29o_101 ∧ z29o_102 a_1 ≤ (9223372036854775807 : Nat) ∧ z29o_102 a_1 * (32 : Nat) ≤ (140737488355328 : Nat)) ∧
 (a_1.a.f.length = a_1.a.f.length ∧ ((0 : Nat) < a_1.a.f.length → z29o_75)) ∧ z29o_76 ∧ z29o_101 ∧ z29o_103 a_1 ≤ (9223372036854775807 : Nat) ∧ z29o_103 a_1 * (8 : Nat) ≤ (140737488355328 : Nat)) ∧ z29o_85 a_1 a ∧ ∃ (a_3
 : MK), (mdSt a = mdSt a ∧ z29o_13 ∧ (mdSt a).toNat = (mdSt a).toNat ∧ z29o_86 a_3 a_1 ∧ z29o_90 a_3 a_1 a ∧ z29o_91 a_3 a_1 a ∧ z29o_92 a_3 a_1 a ∧ z29o_93 a_3 a_1 a ∧ z29o_13 ∧ z29o_19 ∧ z29o_13 ∧ z29o_19 ∧ z29o_13 ∧
 z29o_19 ∧ z29o_13 ∧ z29o_19 ∧ z29o_13 ∧ z29o_19 ∧ z29o_13 ∧ z29o_104 a_3 a_1 ∧ z29o_13 ∧ z29o_105 a_3 a_1 ∧ z29o_13 ∧ z29o_19 ∧ (mdSt a).toNat = (mdSt a).toNat ∧ z29o_97 a a_3 a_1 ∧ z29o_104 a_3 a_1 ∧ (∀ (i : Nat), i <
 a_3.a.r.length → ((gD a_3.a.r i).fr = bif z29o_106 i a_1 then (gD a_1.a.r i).fr else z29o_78 a_1 a) ∧ ((gD a_3.a.r i).to = bif z29o_106 i a_1 then (gD a_1.a.r i).to else z29o_82 a_1 a) ∧ ((gD a_3.a.r i).sp.lo = bif
 z29o_106 i a_1 then (gD a_1.a.r i).sp.lo else z29o_98 a_1 a) ∧ (gD a_3.a.r i).sp.hi = bif z29o_106 i a_1 then (gD a_1.a.r i).sp.hi else z29o_99 a_1 a) ∧ z29o_105 a_3 a_1 ∧ ∀ (i : Nat), i < a_3.a.f.length → gD a_3.a.f i =
 bif decide (i < a_1.a.f.length) then gD a_1.a.f i else z29o_96 a_1 a) ∧ z29o_100 a a_3 a_1 else ∃ (a_3 : Stm), (mdSt a = mdSt a ∧ z29o_13 ∧ (mdSt a).toNat = (mdSt a).toNat ∧ a_3.bs.length = a_1.a.s.bs.length ∧ (∀ (i :
 Nat), i < a_3.bs.length → gD a_3.bs i = gD a_1.a.s.bs i) ∧ a_3.used = a_1.a.s.used ∧ a_3.mix = a_1.a.s.mix ∧ z29o_13 ∧ z29o_19 ∧ z29o_13 ∧ z29o_19 ∧ z29o_13 ∧ z29o_19 ∧ z29o_13 ∧ z29o_19 ∧ z29o_13 ∧ z29o_19 ∧ z29o_13 ∧
 z29o_107 a a_1 ∧ (mdR a).f.length = a_1.a.f.length ∧ (0 : Nat) + a_1.a.f.length ≤ a_1.a.f.length ∧ (∀ (j : Nat), j < (mdR a).f.length → gD (mdR a).f j = gD a_1.a.f (z29o_108 j)) ∧ z29o_13 ∧ z29o_19 ∧ (mdSt a).toNat =
 (mdSt a).toNat ∧ (∀ (i : Nat), i < (mdSt a).toNat → gD (mdR a).m i = gD a_1.a.m i) ∧ z29o_107 a a_1 ∧ ∀ (i : Nat), i < (mdR a).r.length → (gD (mdR a).r i).fr = (gD a_1.a.r i).fr ∧ (gD (mdR a).r i).to = (gD a_1.a.r i).to
 ∧ (gD (mdR a).r i).sp.lo = (gD a_1.a.r i).sp.lo ∧ (gD (mdR a).r i).sp.hi = (gD a_1.a.r i).sp.hi) ∧ z29o_112 a a_3) ∧ ∀ (a_1 : Stm), z29o_112 a a_1 → (∃ (a_3 : GK2), (mdSt a = mdSt a ∧ z29o_13 ∧ (mdSt a).toNat = (mdSt
 a).toNat ∧ (↑a_3.k : Int) = (0 : Int) ∧ a_3.a.s.bs.length = a_1.bs.length ∧ (∀ (i : Nat), z29o_113 i a_3 → gD a_3.a.s.bs i = gD a_1.bs i) ∧ a_3.a.s.used = a_1.used ∧ a_3.a.s.mix = a_1.mix ∧ z29o_13 ∧ z29o_19 ∧ z29o_13 ∧
 z29o_19 ∧ z29o_13 ∧ z29o_19 ∧ z29o_13 ∧ z29o_19 ∧ z29o_13 ∧ z29o_19 ∧ z29o_13 ∧ z29o_114 a ∧ z29o_115 a ∧ z29o_116 a ∧ z29o_13 ∧ z29o_19 ∧ (mdSt a).toNat = (mdSt a).toNat ∧ z29o_117 a ∧ z29o_114 a ∧ z29o_118 a) ∧
 z29o_120 a a_3) ∧ (∀ (a_3 : GK2), z29o_120 a a_3 → bif z29o_121 a_3 a then z29o_123 a_3 a ∧ (z29o_48 ∧ z29o_126 a_3 ∧ z29o_127 a_3 ∧ z29o_128 a_3 ∧ z29o_129 a_3 ∧ z29o_130 a_3 ∧ z29o_48 ∧ z29o_138 a_3 ∧ z29o_139 a_3 ∧
 z29o_141 a_3 ∧ z29o_143 a_3 ∧ z29o_144 a_3 ∧ ((True ∧ (z29o_68 → (0 : Nat) = (2 : Nat))) ∧ z29o_146 ∧ z29o_73 ∧ z29o_74 ∧ (16 : Nat) ≤ (140737488355328 : Nat)) ∧ z29o_77) ∧ ∃ (a_5 : GK2), (mdSt a = mdSt a ∧ z29o_13 ∧
 (mdSt a).toNat = (mdSt a).toNat ∧ z29o_147 a_5 a_3 ∧ z29o_151 a_5 a_3 ∧ z29o_152 a_5 a_3 ∧ z29o_153 a_5 a_3 ∧ z29o_154 a_5 a_3 ∧ z29o_13 ∧ z29o_19 ∧ z29o_13 ∧ z29o_19 ∧ z29o_13 ∧ z29o_19 ∧ z29o_13 ∧ z29o_19 ∧ z29o_13 ∧
 z29o_155 a_5 ∧ z29o_13 ∧ z29o_114 a ∧ z29o_115 a ∧ z29o_116 a ∧ z29o_13 ∧ z29o_156 a_5 ∧ (mdSt a).toNat = (mdSt a).toNat ∧ z29o_117 a ∧ z29o_114 a ∧ z29o_118 a ∧ z29o_155 a_5 ∧ (∀ (i : Nat), i < a_5.a.g.length → (gD
 a_5.a.g i).lo = z29o_158 a a_3 ∧ (gD a_5.a.g i).hi = z29o_159 a a_3) ∧ z29o_156 a_5 ∧ ∀ (i : Nat), i < a_5.a.t.length → gD a_5.a.t i = z29o_157 a a_3) ∧ z29o_161 a a_5 a_3 else z29o_162 a ∧ z29o_162 a ∧ z29o_13 ∧
 z29o_163 a ∧ z29o_164 a ∧ z29o_165 a ∧ z29o_166 a ∧ z29o_166 a ∧ z29o_167 a a_3) ∧ ∀ (a_3 : GK2), z29o_119 a a_3 → bif z29o_121 a_3 a then z29o_123 a_3 a ∧ (z29o_48 ∧ z29o_126 a_3 ∧ z29o_127 a_3 ∧ z29o_128 a_3 ∧ z29o_129
 a_3 ∧ z29o_130 a_3 ∧ z29o_48 ∧ z29o_138 a_3 ∧ z29o_139 a_3 ∧ z29o_141 a_3 ∧ z29o_143 a_3 ∧ z29o_144 a_3 ∧ ((a_3.a.g.length = a_3.a.g.length ∧ ((0 : Nat) < a_3.a.g.length → z29o_145)) ∧ z29o_146 ∧ z29o_101 ∧ z29o_168 a_3
 ≤ (9223372036854775807 : Nat) ∧ z29o_168 a_3 * (16 : Nat) ≤ (140737488355328 : Nat)) ∧ (a_3.a.t.length = a_3.a.t.length ∧ ((0 : Nat) < a_3.a.t.length → z29o_75)) ∧ z29o_76 ∧ z29o_101 ∧ z29o_169 a_3 ≤ (9223372036854775807
 : Nat) ∧ z29o_169 a_3 * (8 : Nat) ≤ (140737488355328 : Nat)) ∧ ∃ (a_5 : GK2), (mdSt a = mdSt a ∧ z29o_13 ∧ (mdSt a).toNat = (mdSt a).toNat ∧ z29o_147 a_5 a_3 ∧ z29o_151 a_5 a_3 ∧ z29o_152 a_5 a_3 ∧ z29o_153 a_5 a_3 ∧
 z29o_154 a_5 a_3 ∧ z29o_13 ∧ z29o_19 ∧ z29o_13 ∧ z29o_19 ∧ z29o_13 ∧ z29o_19 ∧ z29o_13 ∧ z29o_19 ∧ z29o_13 ∧ z29o_170 a_5 a_3 ∧ z29o_13 ∧ z29o_114 a ∧ z29o_115 a ∧ z29o_116 a ∧ z29o_13 ∧ z29o_171 a_5 a_3 ∧ (mdSt a).toNat
 = (mdSt a).toNat ∧ z29o_117 a ∧ z29o_114 a ∧ z29o_118 a ∧ z29o_170 a_5 a_3 ∧ (∀ (i : Nat), i < a_5.a.g.length → ((gD a_5.a.g i).lo = bif z29o_172 i a_3 then (gD a_3.a.g i).lo else z29o_158 a a_3) ∧ (gD a_5.a.g i).hi =
 bif z29o_172 i a_3 then (gD a_3.a.g i).hi else z29o_159 a a_3) ∧ z29o_171 a_5 a_3 ∧ ∀ (i : Nat), i < a_5.a.t.length → gD a_5.a.t i = bif decide (i < a_3.a.t.length) then gD a_3.a.t i else z29o_157 a a_3) ∧ z29o_161 a a_5
 a_3 else (madeN a).g.length = a_3.a.g.length ∧ (0 : Nat) + a_3.a.g.length ≤ a_3.a.g.length ∧ (∀ (j : Nat), j < (madeN a).g.length → (gD (madeN a).g j).lo = (z29o_173 a_3 j).lo ∧ (gD (madeN a).g j).hi = (z29o_173 a_3
 j).hi) ∧ z29o_13 ∧ z29o_163 a ∧ z29o_164 a ∧ z29o_165 a ∧ (madeTr a).t.length = a_3.a.t.length ∧ (0 : Nat) + a_3.a.t.length ≤ a_3.a.t.length ∧ (∀ (j : Nat), j < (madeTr a).t.length → gD (madeTr a).t j = gD a_3.a.t
 (z29o_108 j)) ∧ z29o_167 a a_3) := by kernel_rfl
theorem p29o (a : SN) (h1 : StmB 1000000000 a.s) (h2 : 1 ≤ a.n ∧ a.n ≤ 8) (h3 : (madeN a).r.length ≠ 0) : V29o a := by
  have hst : 1 ≤ mdSt a ∧ mdSt a ≤ 8 := by
    have := witV_in h1 (by omega) (lo := 1) (hi := a.n) (by omega) h2.1 (by omega)
    exact ⟨this.1, by show witV _ _ _ ≤ _; omega⟩
  have hs1 : StmB 1000000001 (mdS1 a) := (h1.next (by omega) (witN 1 a.n)).mono (by omega)
  have hI := nextV_in hs1 (by omega) 12
  have hI1 : 0 ≤ mdI a := hI.1
  have hI2 : mdI a < 12 := hI.2 (by omega)
  have hs2 : StmB 1000000002 (nextS (mdS1 a) 12) := (hs1.next (by omega) 12).mono (by omega)
  rw [vc29o]; delta z29o_0 z29o_1 z29o_2 z29o_3 z29o_4 z29o_5 z29o_6 z29o_7 z29o_8 z29o_9 z29o_10 z29o_11 z29o_12 z29o_13 z29o_14 z29o_15 z29o_16 z29o_17 z29o_18 z29o_19 z29o_20 z29o_21 z29o_22 z29o_23 z29o_24 z29o_25 z29o_26 z29o_27 z29o_28 z29o_29 z29o_30 z29o_31 z29o_32 z29o_33 z29o_34 z29o_35 z29o_36 z29o_37 z29o_38 z29o_39 z29o_40 z29o_41 z29o_42 z29o_43 z29o_44 z29o_45 z29o_46 z29o_47 z29o_48 z29o_49 z29o_50 z29o_51 z29o_52 z29o_53 z29o_54 z29o_55 z29o_56 z29o_57 z29o_58 z29o_59 z29o_60 z29o_61 z29o_62 z29o_63 z29o_64 z29o_65 z29o_66 z29o_67 z29o_68 z29o_69 z29o_70 z29o_71 z29o_72 z29o_73 z29o_74 z29o_75 z29o_76 z29o_77 z29o_78 z29o_79 z29o_80 z29o_81 z29o_82 z29o_83 z29o_84 z29o_85 z29o_86 z29o_87 z29o_88 z29o_89 z29o_90 z29o_91 z29o_92 z29o_93 z29o_94 z29o_95 z29o_96 z29o_97 z29o_98 z29o_99 z29o_100 z29o_101 z29o_102 z29o_103 z29o_104 z29o_105 z29o_106 z29o_107 z29o_108 z29o_109 z29o_110 z29o_111 z29o_112 z29o_113 z29o_114 z29o_115 z29o_116 z29o_117 z29o_118 z29o_119 z29o_120 z29o_121 z29o_122 z29o_123 z29o_124 z29o_125 z29o_126 z29o_127 z29o_128 z29o_129 z29o_130 z29o_131 z29o_132 z29o_133 z29o_134 z29o_135 z29o_136 z29o_137 z29o_138 z29o_139 z29o_140 z29o_141 z29o_142 z29o_143 z29o_144 z29o_145 z29o_146 z29o_147 z29o_148 z29o_149 z29o_150 z29o_151 z29o_152 z29o_153 z29o_154 z29o_155 z29o_156 z29o_157 z29o_158 z29o_159 z29o_160 z29o_161 z29o_162 z29o_163 z29o_164 z29o_165 z29o_166 z29o_167 z29o_168 z29o_169 z29o_170 z29o_171 z29o_172 z29o_173; simp only [condP, eq_self, implies_true, and_self, true_and, and_true, true_implies, forall_const, decide_eq_true_eq, decide_eq_false_iff_not, Int.toNat_natCast, dSpan_eSpan, dReach_eReach, dWay_eWay, dStep_eStep, dFar_eFar, dInt_eInt, Nat.zero_add, Int.zero_sub, Nat.le_eq, Nat.succ_eq_add_one, Nat.add_one_le_iff, Bool.not_eq_true', Bool.not_eq_false', rng_length, dSpan_mk, dReach_mk, dWay_mk, dStep_mk, dFar_mk, rng_getD, DL.m2, md1, md2, md3, md4, md5, md6, md7, md8, md9]
  have hz : (mdZ a).m.length = (mdSt a).toNat := by simp [mdZ]
  refine ⟨⟨rfl, h1.used.1⟩, ⟨by omega, by omega, by omega⟩, ⟨⟨rfl, hs1.used.1⟩, ⟨⟨mdZ a, (mdI a).toNat⟩, ⟨by simp only; omega, rfl, fun _ _ => rfl, rfl, rfl, fun i hi => ?_⟩, ⟨hst, hs2.mono (by simp only; omega), by simp only; omega, rfl, by simp only [mdZ, List.length_nil]; omega, hz, rfl⟩, rfl, rfl⟩, ?LA, ?LB⟩, ?CC⟩
  · show gD (List.replicate (mdSt a).toNat 0) i = 0
    rw [gD_replicate, if_pos hi]
  case LA =>
    intro s ⟨⟨_, q1, q2, q3, q4, q5, q6⟩, r0, f0⟩
    refine ⟨fun hc => ?_, fun hc => ?_⟩
    · have hc := and_b.1 hc
      have c1 : 0 < s.k := by have := of_decide_eq_true hc.1; omega
      have c2 : 1 < mdSt a := by have := of_decide_eq_true hc.2; omega
      have M := madeR_ok (st := mdSt a) (by omega) q1 (by omega)
      obtain ⟨k, hk⟩ : ∃ k, s.k = k + 1 := ⟨s.k - 1, by omega⟩
      obtain ⟨n1, n2, n3⟩ := mr_len (mdSt a) s.a
      have hfr := M.fr
      have hto := M.to
      have hne := M.ne
      have hrl : s.a.r.length = 0 := by rw [r0]; rfl
      have hfl : s.a.f.length = 0 := by rw [f0]; rfl
      refine ⟨q1.used.1, ⟨rfl, M.s0.used.1, by omega⟩, ⟨rfl, rfl, M.x.used.1⟩, ⟨rfl, M.y.used.1, rfl, M.z.used.1⟩, ⟨⟨by decide, by decide, by decide, by decide, by decide⟩, by decide, by decide, by decide, by decide, by decide⟩, ⟨⟨by omega, by omega⟩, by omega, ⟨by omega, by omega⟩, by omega, ⟨by omega, by omega⟩, by omega, ⟨by omega, by omega⟩, by omega⟩, ⟨⟨madeR (mdSt a) s.a, k⟩, ⟨?_, rfl, fun _ _ => rfl, rfl, rfl, by simp only; omega, by simp only; omega, fun i hi => ?_, by simp only; omega, fun i hi => ?_, by simp only; omega, fun i hi => ?_⟩, ⟨hst, M.s.mono (by simp only; omega), by simp only; omega, by simp only; omega, by simp only; omega, by simp only; omega, ?_⟩, by simp only; omega⟩⟩
      · show (k : Int) = IntKind.i64.wrap ((s.k : Int) - 1)
        rw [w64 (by omega) (by omega)]; omega
      · exact mr_m (by omega) (by omega) (by omega) i
      · have := mr_r (mdSt a) s.a (i := i) (by simp only at hi; omega)
        simp only [show ¬ i < s.a.r.length by omega, decide_false, cond_false] at this
        exact this
      · have := mr_f (mdSt a) s.a (i := i) (by simp only at hi; omega)
        simp only [show ¬ i < s.a.f.length by omega, decide_false, cond_false] at this
        exact this
      · rw [if_pos c2, hk] at q6
        rw [if_pos c2]; exact q6
    · have hR : mdR a = s.a := by
        rw [← q6]
        by_cases c2 : 1 < mdSt a
        · have : ¬ 0 < s.k := fun h => by
            rw [decide_eq_true (show (s.k : Int) > 0 by omega), decide_eq_true (show mdSt a > 1 by omega)] at hc; cases hc
          rw [if_pos c2, show s.k = 0 by omega]; rfl
        · rw [if_neg c2]
      exact h3 (by show (mdR a).r.length = 0; rw [hR, r0]; rfl)
  case LB =>
    intro s ⟨_, q1, q2, q3, q4, q5, q6⟩
    refine ⟨fun hc => ?_, fun hc => ?_⟩
    · have hc := and_b.1 hc
      have c1 : 0 < s.k := by have := of_decide_eq_true hc.1; omega
      have c2 : 1 < mdSt a := by have := of_decide_eq_true hc.2; omega
      have M := madeR_ok (st := mdSt a) (by omega) q1 (by omega)
      obtain ⟨k, hk⟩ : ∃ k, s.k = k + 1 := ⟨s.k - 1, by omega⟩
      obtain ⟨n1, n2, n3⟩ := mr_len (mdSt a) s.a
      have hfr := M.fr
      have hto := M.to
      have hne := M.ne
      refine ⟨q1.used.1, ⟨rfl, M.s0.used.1, by omega⟩, ⟨rfl, rfl, M.x.used.1⟩, ⟨rfl, M.y.used.1, rfl, M.z.used.1⟩, ⟨⟨by decide, by decide, by omega, by omega⟩, by decide, by decide, by omega, by omega⟩, ⟨⟨by omega, by omega⟩, by omega, ⟨by omega, by omega⟩, by omega, ⟨by omega, by omega⟩, by omega, ⟨by omega, by omega⟩, by omega⟩, ⟨⟨madeR (mdSt a) s.a, k⟩, ⟨?_, rfl, fun _ _ => rfl, rfl, rfl, by simp only; omega, by simp only; omega, fun i hi => ?_, by simp only; omega, fun i hi => ?_, by simp only; omega, fun i hi => ?_⟩, ⟨hst, M.s.mono (by simp only; omega), by simp only; omega, by simp only; omega, by simp only; omega, by simp only; omega, ?_⟩, by simp only; omega⟩⟩
      · show (k : Int) = IntKind.i64.wrap ((s.k : Int) - 1)
        rw [w64 (by omega) (by omega)]; omega
      · exact mr_m (by omega) (by omega) (by omega) i
      · exact mr_r (mdSt a) s.a (i := i) (by simp only at hi; omega)
      · exact mr_f (mdSt a) s.a (i := i) (by simp only at hi; omega)
      · rw [if_pos c2, hk] at q6
        rw [if_pos c2]; exact q6
    · have hR : mdR a = s.a := by
        rw [← q6]
        by_cases c2 : 1 < mdSt a
        · have : ¬ 0 < s.k := fun h => by
            rw [decide_eq_true (show (s.k : Int) > 0 by omega), decide_eq_true (show mdSt a > 1 by omega)] at hc; cases hc
          rw [if_pos c2, show s.k = 0 by omega]; rfl
        · rw [if_neg c2]
      rw [hR]
      exact ⟨s.a.s, ⟨rfl, fun _ _ => rfl, rfl, rfl, rfl, rfl, Nat.le_refl _, fun _ _ => rfl, fun _ _ => rfl, rfl, fun _ _ => ⟨rfl, rfl, rfl, rfl⟩⟩, hst, q1.mono (by omega), rfl, q5, q3, by omega⟩
  case CC =>
    intro s ⟨_, q1, q2, q3, q4, q5⟩
    refine ⟨⟨⟨⟨s, [], []⟩, 0⟩, ⟨rfl, rfl, fun _ _ => rfl, rfl, rfl⟩, ⟨hst, q1.mono (by simp only; omega), Nat.zero_le _, rfl, rfl, q3, q4, q5, ?_⟩, rfl⟩, ?GA, ?GB⟩
    · show madeGs (mdR a).m ⟨s, [], []⟩ = mdG a
      rw [q2]; rfl
    case GA =>
      intro g ⟨⟨_, w1, w2, w3, w4, _, _, _, w5⟩, w6⟩
      refine ⟨fun hlt => ?_, fun hge => by omega⟩
      have hk : g.k < (mdR a).m.length := by omega
      rw [drop_gD hk] at w5
      have t1 := w1.next (by omega) 9
      have t2 := t1.next (by omega) 9
      obtain ⟨n1, n2⟩ := mg_len (wr (-gD (mdR a).m g.k)) g.a
      refine ⟨⟨⟨by omega, by omega⟩, by omega⟩, ⟨rfl, w1.used.1, rfl, t1.used.1, ⟨by decide, by decide, by decide, by decide, by decide⟩, by decide, by decide, by decide, by decide, by decide⟩, ⟨⟨madeG (wr (-gD (mdR a).m g.k)) g.a, g.k + 1⟩, ⟨(wsucc (by omega)).symm, by simp only [mg_s], fun _ _ => by simp only [mg_s], by simp only [mg_s], by simp only [mg_s], by simp only; omega, by simp only; omega, by simp only; omega, fun i hi => ?_, by simp only; omega, fun i hi => ?_⟩, ⟨hst, by simp only [mg_s]; exact t2.mono (by omega), by simp only; omega, by simp only; omega, by simp only; omega, q3, q4, q5, w5⟩, by simp only; omega⟩⟩
      · have := mg_g (wr (-gD (mdR a).m g.k)) g.a (i := i) (by simp only at hi; omega)
        simp only [show ¬ i < g.a.g.length by omega, decide_false, cond_false] at this
        exact this
      · have := mg_t (wr (-gD (mdR a).m g.k)) g.a (i := i) (by simp only at hi; omega)
        simp only [show ¬ i < g.a.t.length by omega, decide_false, cond_false] at this
        exact this
    case GB =>
      intro g ⟨_, w1, w2, w3, w4, _, _, _, w5⟩
      refine ⟨fun hlt => ?_, fun hge => ?_⟩
      · have hk : g.k < (mdR a).m.length := by omega
        rw [drop_gD hk] at w5
        have t1 := w1.next (by omega) 9
        have t2 := t1.next (by omega) 9
        obtain ⟨n1, n2⟩ := mg_len (wr (-gD (mdR a).m g.k)) g.a
        refine ⟨⟨⟨by omega, by omega⟩, by omega⟩, ⟨rfl, w1.used.1, rfl, t1.used.1, ⟨by decide, by decide, by omega, by omega⟩, by decide, by decide, by omega, by omega⟩, ⟨⟨madeG (wr (-gD (mdR a).m g.k)) g.a, g.k + 1⟩, ⟨(wsucc (by omega)).symm, by simp only [mg_s], fun _ _ => by simp only [mg_s], by simp only [mg_s], by simp only [mg_s], by simp only; omega, by simp only; omega, by simp only; omega, fun i hi => ?_, by simp only; omega, fun i hi => ?_⟩, ⟨hst, by simp only [mg_s]; exact t2.mono (by omega), by simp only; omega, by simp only; omega, by simp only; omega, q3, q4, q5, w5⟩, by simp only; omega⟩⟩
        · exact mg_g (wr (-gD (mdR a).m g.k)) g.a (i := i) (by simp only at hi; omega)
        · exact mg_t (wr (-gD (mdR a).m g.k)) g.a (i := i) (by simp only at hi; omega)
      · have hk : g.k = (mdR a).m.length := by omega
        rw [hk, List.drop_eq_nil_of_le (Nat.le_refl _)] at w5
        have e : mdG a = g.a := w5.symm
        have e1 : (madeN a).g = g.a.g := by unfold madeN; rw [e]
        have e2 : (madeTr a).t = g.a.t := by unfold madeTr; rw [e]
        rw [e, e1, e2]
        exact ⟨rfl, Nat.le_refl _, fun _ _ => ⟨rfl, rfl⟩, rfl, rfl, fun _ _ => rfl, rfl, Nat.le_refl _, fun _ _ => rfl, rfl, fun _ _ => ⟨rfl, rfl, rfl, rfl⟩, rfl, fun _ _ => rfl, rfl, rfl⟩
theorem ok29o : SpecOk Try.prog 29 (C29o.spec d33) := okC C29o A29o [(0, 206)] [208, 209] Try.func29 (fun _ => by kernel_rfl) (fun _ => gok_cons ok33 (gok_cons ok43 gok_nil)) (fun a h => p29o a h.1 h.2.1 h.2.2) (fun _ => noI rfl rfl) _
end Go.Bal
