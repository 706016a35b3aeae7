/- Nets that are made of numbers. -/
import Derived.Test.YtonddbmhljelgaaBalMk3
set_option linter.unusedVariables false
set_option linter.unusedSimpArgs false
namespace Go.Bal
open Go Go.Sym Go.Proofs
structure MS where
  s : Stm
  r : List Reach
  f : List Int
  m : List Int
  deriving Inhabited
def madeX (st : Int) (a : MS) : Stm := witS (nextS a.s st) 1 (wr (st - 1))
def madeV (st : Int) (a : MS) : Int := witV (madeX st a) (-20) 120
def madeY (st : Int) (a : MS) : Stm := witS (madeX st a) (-20) 120
def madeF (st : Int) (a : MS) : Int := nextV a.s st
def madeT (st : Int) (a : MS) : Int := (wr (nextV a.s st + witV (nextS a.s st) 1 (wr (st - 1)))).tmod st
def madeR (st : Int) (a : MS) : MS := ⟨nextS (nextS (madeY st a) 9) 9, a.r ++ [⟨madeF st a, madeT st a, ⟨wr (madeV st a - nextV (madeY st a) 9), wr (madeV st a + nextV (nextS (madeY st a) 9) 9)⟩⟩], a.f ++ [madeV st a], (a.m.modify (madeF st a).toNat fun y => wr (y - madeV st a)).modify (madeT st a).toNat fun y => wr (y + madeV st a)⟩
def madeRs : Nat → Int → MS → MS
  | 0, _, a => a
  | k + 1, st, a => madeRs k st (madeR st a)
structure GS where
  s : Stm
  g : List Span
  t : List Int
  deriving Inhabited
def madeG (x : Int) (a : GS) : GS := ⟨nextS (nextS a.s 9) 9, a.g ++ [⟨wr (x - nextV a.s 9), wr (x + nextV (nextS a.s 9) 9)⟩], a.t ++ [x]⟩
def madeGs : List Int → GS → GS
  | [], a => a
  | x :: l, a => madeGs l (madeG (wr (-x)) a)
def mdSt (a : SN) : Int := witV a.s 1 a.n
def mdS1 (a : SN) : Stm := witS a.s 1 a.n
def mdI (a : SN) : Int := nextV (mdS1 a) 12
def mdZ (a : SN) : MS := ⟨nextS (mdS1 a) 12, [], [], List.replicate (mdSt a).toNat 0⟩
def mdR (a : SN) : MS := if 1 < mdSt a then madeRs (mdI a).toNat (mdSt a) (mdZ a) else mdZ a
def mdG (a : SN) : GS := madeGs (mdR a).m ⟨(mdR a).s, [], []⟩
def madeN (a : SN) : NetL := ⟨(mdG a).g, (mdR a).r⟩
def madeTr (a : SN) : TruthL := ⟨(mdR a).f, (mdG a).t⟩
structure MK where
  a : MS
  k : Nat
  deriving Inhabited
structure GK2 where
  a : GS
  k : Nat
  deriving Inhabited
def nilB2 : HCell := .live (.box [.d nilL, .d nilL])
def mdSl (i : AVal) (j : Nat) (st : Int) : List (Nat × AVal) := [(0, .bptr 100 0), (4, .bptr 201 0), (5, .bptr 202 0), (6, .bptr 203 0), (7, .bptr 204 0), (8, .int st), (9, .own 205 1 0 st.toNat), (j, i)]
def mdInv (a : SN) (s : MK) : Prop := (1 ≤ mdSt a ∧ mdSt a ≤ 8) ∧ StmB (2000000000 - 10 * (s.k : Int)) s.a.s ∧ s.k ≤ 11 ∧ s.a.r.length = s.a.f.length ∧ s.a.r.length + s.k ≤ 11 ∧ s.a.m.length = (mdSt a).toNat ∧ (if 1 < mdSt a then madeRs s.k (mdSt a) s.a else s.a) = mdR a
def gdInv (a : SN) (s : GK2) : Prop := (1 ≤ mdSt a ∧ mdSt a ≤ 8) ∧ StmB (3000000000 + 10 * (s.k : Int)) s.a.s ∧ s.k ≤ (mdSt a).toNat ∧ s.a.g.length = s.k ∧ s.a.t.length = s.k ∧ (mdR a).m.length = (mdSt a).toNat ∧ (mdR a).r.length = (mdR a).f.length ∧ (mdR a).r.length ≤ 11 ∧ madeGs ((mdR a).m.drop s.k) s.a = mdG a
def gdObj (a : SN) (x y : AVal) (s : GK2) : List (Nat × HCell) := [(100, stmH s.a.s), (201, nilB2), (202, nilB2), (203, .live (.box [x, .d (eReachesL (mdR a).r)])), (204, .live (.box [.d (eIntsL (mdR a).f), y])), (205, rowL (mdSt a).toNat (mdR a).m)]
def gdCut (a : SN) (s : Stm) : Prop := (1 ≤ mdSt a ∧ mdSt a ≤ 8) ∧ StmB 2000000000 s ∧ s = (mdR a).s ∧ (mdR a).m.length = (mdSt a).toNat ∧ (mdR a).r.length = (mdR a).f.length ∧ (mdR a).r.length ≤ 11
def mdSl0 (st : Int) : List (Nat × AVal) := [(0, .bptr 100 0), (4, .bptr 201 0), (5, .bptr 202 0), (6, .bptr 203 0), (7, .bptr 204 0), (8, .int st), (9, .own 205 1 0 st.toNat)]
def A29 (a : SN) : Ann := { ann 122 [(33, C33.spec d33), (43, C43.spec d43)] with E := [100], mt := fun id => id == 12 || id == 18, cutIn := fun gs id => if id = 14 then some [{ α := Stm, dflt := default, T := fun s => ⟨mdSl0 (mdSt a), gdObj a (.d nilL) (.d nilL) ⟨⟨s, [], []⟩, 0⟩⟩, inv := fun s => gdCut a s, meas := fun _ => 0, ffz := [206, 207] }] else none, loops := fun id => if id = 6 then some [{ α := MK, dflt := default, T := fun s => ⟨mdSl (.int s.k) 10 (mdSt a), [(100, stmH s.a.s), (201, nilB2), (202, nilB2), (203, nilB2), (204, nilB2), (205, rowL (mdSt a).toNat s.a.m)]⟩, inv := fun s => mdInv a s ∧ s.a.r = [] ∧ s.a.f = [], meas := fun s => s.k, first := [(201, 1000), (202, 1016), (203, 2000), (204, 3000), (205, 5016)] }, { α := MK, dflt := default, T := fun s => ⟨mdSl (.int s.k) 10 (mdSt a), [(100, stmH s.a.s), (201, nilB2), (202, nilB2), (203, .live (.box [.d nilL, .own 206 4 0 s.a.r.length])), (204, .live (.box [.own 207 1 0 s.a.f.length, .d nilL])), (205, rowL (mdSt a).toNat s.a.m), (206, rowR s.a.r), (207, rowL s.a.f.length s.a.f)]⟩, inv := fun s => mdInv a s, meas := fun s => s.k, again := [(206, 13064), (207, 13144)] }] else if id = 15 then some [{ α := GK2, dflt := default, T := fun s => ⟨mdSl (.int s.k) 13 (mdSt a), gdObj a (.d nilL) (.d nilL) s⟩, inv := fun s => gdInv a s ∧ s.k = 0, meas := fun s => (mdSt a).toNat - s.k }, { α := GK2, dflt := default, T := fun s => ⟨mdSl (.int s.k) 13 (mdSt a), gdObj a (.own 208 2 0 s.a.g.length) (.own 209 1 0 s.a.t.length) s ++ [(208, rowS s.a.g.length s.a.g), (209, rowL s.a.t.length s.a.t)]⟩, inv := fun s => gdInv a s, meas := fun s => (mdSt a).toNat - s.k, again := [(208, 19192), (209, 19272)] }] else none }
def C29 : Ctr := { α := SN, xs := fun a => [.bptr 100 0, .int a.n], L := fun a => [(100, stmO a.s)], val := fun a => .tup [.d (eNetL (madeN a)), .d (eTruthL (madeTr a))], keep := fun a => [(100, stmH (mdG a).s)], pre := fun a => [StmB 1000000000 a.s, 1 ≤ a.n ∧ a.n ≤ 8] }
def V29 (a : SN) : Prop := fnVC Try.prog (A29 a) Try.f29 (bodyOf Try.f29) (C29.xs a) (heapOf (C29.L a)) (C29.val a) (C29.keep a) [] [208, 209]
abbrev z29_0 : Prop := (1 : Int) = Int.ofNat (1 : Nat)
abbrev z29_1 (a : SN) : List Int := rng a.s.bs.length fun (i : Nat) => gD a.s.bs i
abbrev z29_2 (a : SN) : Nat := (z29_1 a).length
abbrev z29_3 (a : SN) : Stm := Stm.mk (z29_1 a) a.s.used a.s.mix
abbrev z29_4 (a : SN) : Int := witV (z29_3 a) (1 : Int) a.n
abbrev z29_5 (a : SN) : Stm := witS (z29_3 a) (1 : Int) a.n
abbrev z29_6 (a : SN) : List Int := (z29_5 a).bs
abbrev z29_7 (a : SN) : Nat := (z29_6 a).length
abbrev z29_8 (a : SN) (i : Nat) : Int := gD (z29_6 a) i
abbrev z29_9 (a : SN) : List Int := rng (z29_7 a) fun (i : Nat) => z29_8 a i
abbrev z29_10 (a : SN) : Nat := (z29_9 a).length
abbrev z29_11 (a : SN) : Int := (z29_5 a).used
abbrev z29_12 (a : SN) : Int := (z29_5 a).mix
abbrev z29_13 : Prop := (0 : Nat) = (0 : Nat)
abbrev z29_14 (a : SN) : Prop := (mdSt a).toNat = (z29_4 a).toNat
abbrev z29_15 (a : SN) : Stm := Stm.mk (z29_9 a) (z29_11 a) (z29_12 a)
abbrev z29_16 (a : SN) : Stm := nextS (z29_15 a) (12 : Int)
abbrev z29_17 (a : SN) : List Int := (z29_16 a).bs
abbrev z29_18 (i : Nat) (a : MK) : Prop := i < a.a.s.bs.length
abbrev z29_19 : Prop := ∀ (i : Nat), i < (0 : Nat) → false = false
abbrev z29_20 (a : SN) : Prop := (1 : Int) ≤ mdSt a ∧ mdSt a ≤ (8 : Int)
abbrev z29_21 (a : SN) (a1 : MK) : Prop := z29_20 a ∧ StmB ((2000000000 : Int) - (10 : Int) * (↑a1.k : Int)) a1.a.s ∧ a1.k ≤ (11 : Nat) ∧ a1.a.r.length = a1.a.f.length ∧ a1.a.r.length + a1.k ≤ (11 : Nat) ∧ a1.a.m.length
 = (mdSt a).toNat ∧ (if (1 : Int) < mdSt a then madeRs a1.k (mdSt a) a1.a else a1.a) = mdR a
abbrev z29_22 (a : SN) (a1 : MK) : Prop := z29_21 a a1 ∧ a1.a.r = [] ∧ a1.a.f = []
abbrev z29_23 (a : MK) (a1 : SN) : Bool := bif decide ((↑a.k : Int) > (0 : Int)) then decide (mdSt a1 > (1 : Int)) else false
abbrev z29_24 (a : MK) : List Int := rng a.a.s.bs.length fun (i : Nat) => gD a.a.s.bs i
abbrev z29_25 (a : MK) : Nat := (z29_24 a).length
abbrev z29_26 (a : SN) (a1 : MK) : Prop := mdSt a = mdSt a ∧ z29_25 a1 = a1.a.s.bs.length ∧ (∀ (i : Nat), i < z29_25 a1 → gD (z29_24 a1) i = gD a1.a.s.bs i) ∧ a1.a.s.used = a1.a.s.used ∧ a1.a.s.mix = a1.a.s.mix ∧
 (a1.a.s.used - (0 : Int)).NonNeg
abbrev z29_27 (a : SN) : Int := IntKind.i64.wrap (mdSt a - (1 : Int))
abbrev z29_28 (a : MK) : Stm := Stm.mk (z29_24 a) a.a.s.used a.a.s.mix
abbrev z29_29 (a : MK) (a1 : SN) : Stm := nextS (z29_28 a) (mdSt a1)
abbrev z29_30 (a : MK) (a1 : SN) : List Int := (z29_29 a a1).bs
abbrev z29_31 (a : MK) (a1 : SN) : Nat := (z29_30 a a1).length
abbrev z29_32 (a : MK) (a1 : SN) (i : Nat) : Int := gD (z29_30 a a1) i
abbrev z29_33 (a : MK) (a1 : SN) : List Int := rng (z29_31 a a1) fun (i : Nat) => z29_32 a a1 i
abbrev z29_34 (a : MK) (a1 : SN) : Nat := (z29_33 a a1).length
abbrev z29_35 (a : MK) (a1 : SN) : Int := (z29_29 a a1).used
abbrev z29_36 (a : MK) (a1 : SN) : Int := (z29_29 a a1).mix
abbrev z29_37 (a : SN) (a1 : MK) : Prop := z29_0 ∧ z29_27 a = z29_27 a ∧ z29_34 a1 a = z29_31 a1 a ∧ (∀ (i : Nat), i < z29_34 a1 a → gD (z29_33 a1 a) i = z29_32 a1 a i) ∧ z29_35 a1 a = z29_35 a1 a ∧ z29_36 a1 a = z29_36
 a1 a ∧ (0 : Int) ≤ z29_35 a1 a ∧ (mdSt a = (0 : Int) → False)
abbrev z29_38 (a : MK) (a1 : SN) : Stm := Stm.mk (z29_33 a a1) (z29_35 a a1) (z29_36 a a1)
abbrev z29_39 (a : MK) (a1 : SN) : Stm := witS (z29_38 a a1) (1 : Int) (z29_27 a1)
abbrev z29_40 (a : MK) (a1 : SN) : List Int := (z29_39 a a1).bs
abbrev z29_41 (a : MK) (a1 : SN) : Nat := (z29_40 a a1).length
abbrev z29_42 (a : MK) (a1 : SN) (i : Nat) : Int := gD (z29_40 a a1) i
abbrev z29_43 (a : MK) (a1 : SN) : List Int := rng (z29_41 a a1) fun (i : Nat) => z29_42 a a1 i
abbrev z29_44 (a : MK) (a1 : SN) : Nat := (z29_43 a a1).length
abbrev z29_45 (a : MK) (a1 : SN) : Int := (z29_39 a a1).used
abbrev z29_46 (a : MK) (a1 : SN) : Int := (z29_39 a a1).mix
abbrev z29_47 (a : MK) (a1 : SN) : Prop := (-20 : Int) = Int.negSucc (19 : Nat) ∧ (120 : Int) = Int.ofNat (120 : Nat) ∧ z29_44 a a1 = z29_41 a a1 ∧ (∀ (i : Nat), i < z29_44 a a1 → gD (z29_43 a a1) i = z29_42 a a1 i) ∧
 z29_45 a a1 = z29_45 a a1 ∧ z29_46 a a1 = z29_46 a a1 ∧ (z29_45 a a1 - (0 : Int)).NonNeg
abbrev z29_48 : Prop := (9 : Int) = Int.ofNat (9 : Nat)
abbrev z29_49 (a : MK) (a1 : SN) : Stm := Stm.mk (z29_43 a a1) (z29_45 a a1) (z29_46 a a1)
abbrev z29_50 (a : MK) (a1 : SN) : Stm := witS (z29_49 a a1) (-20 : Int) (120 : Int)
abbrev z29_51 (a : MK) (a1 : SN) : List Int := (z29_50 a a1).bs
abbrev z29_52 (a : MK) (a1 : SN) : Nat := (z29_51 a a1).length
abbrev z29_53 (a : MK) (a1 : SN) (i : Nat) : Int := gD (z29_51 a a1) i
abbrev z29_54 (a : MK) (a1 : SN) : List Int := rng (z29_52 a a1) fun (i : Nat) => z29_53 a a1 i
abbrev z29_55 (a : MK) (a1 : SN) : Nat := (z29_54 a a1).length
abbrev z29_56 (a : MK) (a1 : SN) : Int := (z29_50 a a1).used
abbrev z29_57 (a : MK) (a1 : SN) : Int := (z29_50 a a1).mix
abbrev z29_58 (a : MK) (a1 : SN) : Stm := Stm.mk (z29_54 a a1) (z29_56 a a1) (z29_57 a a1)
abbrev z29_59 (a : MK) (a1 : SN) : Stm := nextS (z29_58 a a1) (9 : Int)
abbrev z29_60 (a : MK) (a1 : SN) : List Int := (z29_59 a a1).bs
abbrev z29_61 (a : MK) (a1 : SN) : Nat := (z29_60 a a1).length
abbrev z29_62 (a : MK) (a1 : SN) (i : Nat) : Int := gD (z29_60 a a1) i
abbrev z29_63 (a : MK) (a1 : SN) : List Int := rng (z29_61 a a1) fun (i : Nat) => z29_62 a a1 i
abbrev z29_64 (a : MK) (a1 : SN) : Nat := (z29_63 a a1).length
abbrev z29_65 (a : MK) (a1 : SN) : Int := (z29_59 a a1).used
abbrev z29_66 (a : MK) (a1 : SN) : Int := (z29_59 a a1).mix
abbrev z29_67 (a : MK) (a1 : SN) : Prop := z29_48 ∧ z29_55 a a1 = z29_52 a a1 ∧ (∀ (i : Nat), i < z29_55 a a1 → gD (z29_54 a a1) i = z29_53 a a1 i) ∧ z29_56 a a1 = z29_56 a a1 ∧ z29_57 a a1 = z29_57 a a1 ∧ (0 : Int) ≤
 z29_56 a a1 ∧ z29_48 ∧ z29_64 a a1 = z29_61 a a1 ∧ (∀ (i : Nat), i < z29_64 a a1 → gD (z29_63 a a1) i = z29_62 a a1 i) ∧ z29_65 a a1 = z29_65 a a1 ∧ z29_66 a a1 = z29_66 a a1 ∧ (z29_65 a a1 - (0 : Int)).NonNeg
abbrev z29_68 : Prop := (0 : Nat) < (0 : Nat)
abbrev z29_69 : Prop := (1 : Nat) ≤ (1 : Nat)
abbrev z29_70 : Prop := (0 : Nat) < (1 : Nat)
abbrev z29_71 : Prop := (4 : Nat) = (4 : Nat)
abbrev z29_72 : Prop := z29_69 ∧ (z29_70 → z29_71)
abbrev z29_73 : Prop := true = true → z29_70
abbrev z29_74 : Prop := (1 : Nat) ≤ (9223372036854775807 : Nat)
abbrev z29_75 : Prop := (1 : Nat) = (1 : Nat)
abbrev z29_76 : Prop := z29_69 ∧ (z29_70 → z29_75)
abbrev z29_77 : Prop := (True ∧ (z29_68 → (0 : Nat) = (1 : Nat))) ∧ z29_76 ∧ z29_73 ∧ z29_74 ∧ (8 : Nat) ≤ (140737488355328 : Nat)
abbrev z29_78 (a : MK) (a1 : SN) : Int := nextV (z29_28 a) (mdSt a1)
abbrev z29_79 (a : MK) (a1 : SN) : Prop := (0 : Int) ≤ z29_78 a a1 ∧ z29_78 a a1 < (↑(mdSt a1).toNat : Int)
abbrev z29_80 (a : MK) (a1 : SN) : Nat := (0 : Nat) + (z29_78 a a1).toNat
abbrev z29_81 (a : MK) (a1 : SN) : Prop := z29_80 a a1 < (mdSt a1).toNat
abbrev z29_82 (a : MK) (a1 : SN) : Int := (IntKind.i64.wrap (z29_78 a a1 + witV (z29_38 a a1) (1 : Int) (z29_27 a1))).tmod (mdSt a1)
abbrev z29_83 (a : MK) (a1 : SN) : Prop := (0 : Int) ≤ z29_82 a a1 ∧ z29_82 a a1 < (↑(mdSt a1).toNat : Int)
abbrev z29_84 (a : MK) (a1 : SN) : Nat := (0 : Nat) + (z29_82 a a1).toNat
abbrev z29_85 (a : MK) (a1 : SN) : Prop := z29_79 a a1 ∧ z29_81 a a1 ∧ z29_83 a a1 ∧ z29_84 a a1 < (mdSt a1).toNat ∧ z29_79 a a1 ∧ z29_81 a a1 ∧ z29_83 a a1 ∧ (z29_84 a a1).succ.le (mdSt a1).toNat
abbrev z29_86 (a : MK) (a1 : MK) : Prop := (↑a.k : Int) = IntKind.i64.wrap ((↑a1.k : Int) - (1 : Int))
abbrev z29_87 (a : MK) (a1 : SN) : Stm := Stm.mk (z29_63 a a1) (z29_65 a a1) (z29_66 a a1)
abbrev z29_88 (a : MK) (a1 : SN) : Stm := nextS (z29_87 a a1) (9 : Int)
abbrev z29_89 (a : MK) (a1 : SN) : List Int := (z29_88 a a1).bs
abbrev z29_90 (a : MK) (a1 : MK) (a2 : SN) : Prop := a.a.s.bs.length = (z29_89 a1 a2).length
abbrev z29_91 (a : MK) (a1 : MK) (a2 : SN) : Prop := ∀ (i : Nat), z29_18 i a → gD a.a.s.bs i = gD (z29_89 a1 a2) i
abbrev z29_92 (a : MK) (a1 : MK) (a2 : SN) : Prop := a.a.s.used = (z29_88 a1 a2).used
abbrev z29_93 (a : MK) (a1 : MK) (a2 : SN) : Prop := a.a.s.mix = (z29_88 a1 a2).mix
abbrev z29_94 (a : MK) : Prop := a.a.r.length = (1 : Nat)
abbrev z29_95 (a : MK) : Prop := a.a.f.length = (1 : Nat)
abbrev z29_96 (a : MK) (a1 : SN) : Int := witV (z29_49 a a1) (-20 : Int) (120 : Int)
abbrev z29_97 (a : SN) (a1 : MK) (a2 : MK) : Prop := ∀ (i : Nat), i < (mdSt a).toNat → gD a1.a.m i = bif decide (i = z29_84 a2 a) then IntKind.i64.wrap (gD a2.a.m (z29_84 a2 a) + z29_96 a2 a) else bif decide (i = z29_80
 a2 a) then IntKind.i64.wrap (gD a2.a.m (z29_80 a2 a) - z29_96 a2 a) else gD a2.a.m i
abbrev z29_98 (a : MK) (a1 : SN) : Int := IntKind.i64.wrap (z29_96 a a1 - nextV (z29_58 a a1) (9 : Int))
abbrev z29_99 (a : MK) (a1 : SN) : Int := IntKind.i64.wrap (z29_96 a a1 + nextV (z29_87 a a1) (9 : Int))
abbrev z29_100 (a : SN) (a1 : MK) (a2 : MK) : Prop := z29_21 a a1 ∧ a1.k < a2.k
abbrev z29_101 (a : Stm) (a1 : MK) : Prop := a.bs.length = a1.a.s.bs.length
abbrev z29_102 (a : Stm) (a1 : MK) : Prop := ∀ (i : Nat), i < a.bs.length → gD a.bs i = gD a1.a.s.bs i
abbrev z29_103 (a : SN) : Prop := (mdR a).r.length = (0 : Nat)
abbrev z29_104 (a : SN) : Prop := (mdR a).f.length = (0 : Nat)
abbrev z29_105 (a : SN) (a1 : MK) : Prop := z29_13 ∧ z29_19 ∧ (mdSt a).toNat = (mdSt a).toNat ∧ ∀ (i : Nat), i < (mdSt a).toNat → gD (mdR a).m i = gD a1.a.m i
abbrev z29_106 (a : SN) : Prop := (mdR a).m.length = (mdSt a).toNat
abbrev z29_107 (a : SN) : Prop := (mdR a).r.length = (mdR a).f.length
abbrev z29_108 (a : SN) : Prop := (mdR a).r.length ≤ (11 : Nat)
abbrev z29_109 (a : SN) (a1 : Stm) : Prop := z29_20 a ∧ StmB (2000000000 : Int) a1 ∧ a1 = (mdR a).s ∧ z29_106 a ∧ z29_107 a ∧ z29_108 a
abbrev z29_110 : Prop := false = true → z29_70
abbrev z29_111 (a : MK) : Nat := a.a.r.length + (1 : Nat)
abbrev z29_112 (a : MK) : Nat := a.a.f.length + (1 : Nat)
abbrev z29_113 (a : MK) (a1 : MK) : Prop := a.a.r.length = z29_111 a1
abbrev z29_114 (a : MK) (a1 : MK) : Prop := a.a.f.length = z29_112 a1
abbrev z29_115 (i : Nat) (a : MK) : Bool := decide (i < a.a.r.length)
abbrev z29_116 (j : Nat) : Nat := (0 : Nat) + j
abbrev z29_117 (a : MK) (j : Nat) : Reach := gD a.a.r (z29_116 j)
abbrev z29_118 (a : MK) (j : Nat) : Span := (z29_117 a j).sp
abbrev z29_119 (i : Nat) (a : GK2) : Prop := i < a.a.s.bs.length
abbrev z29_120 (a : SN) : Prop := (mdR a).r.length = (mdR a).r.length
abbrev z29_121 (a : SN) : Prop := ∀ (i : Nat), i < (mdR a).r.length → (gD (mdR a).r i).fr = (gD (mdR a).r i).fr ∧ (gD (mdR a).r i).to = (gD (mdR a).r i).to ∧ (gD (mdR a).r i).sp.lo = (gD (mdR a).r i).sp.lo ∧ (gD (mdR
 a).r i).sp.hi = (gD (mdR a).r i).sp.hi
abbrev z29_122 (a : SN) : Prop := (mdR a).f.length = (mdR a).f.length
abbrev z29_123 (a : SN) : Prop := ∀ (i : Nat), i < (mdR a).f.length → gD (mdR a).f i = gD (mdR a).f i
abbrev z29_124 (a : SN) : Prop := ∀ (i : Nat), i < (mdSt a).toNat → gD (mdR a).m i = gD (mdR a).m i
abbrev z29_125 (a : SN) (a1 : GK2) : Prop := z29_20 a ∧ StmB ((3000000000 : Int) + (10 : Int) * (↑a1.k : Int)) a1.a.s ∧ a1.k ≤ (mdSt a).toNat ∧ a1.a.g.length = a1.k ∧ a1.a.t.length = a1.k ∧ z29_106 a ∧ z29_107 a ∧
 z29_108 a ∧ madeGs (List.drop a1.k (mdR a).m) a1.a = mdG a
abbrev z29_126 (a : SN) (a1 : GK2) : Prop := z29_125 a a1 ∧ a1.k = (0 : Nat)
abbrev z29_127 (a : GK2) (a1 : SN) : Bool := decide ((↑a.k : Int) < mdSt a1)
abbrev z29_128 (a : GK2) : Nat := (0 : Nat) + a.k
abbrev z29_129 (a : GK2) (a1 : SN) : Prop := ((0 : Int) ≤ (↑a.k : Int) ∧ (↑a.k : Int) < (↑(mdSt a1).toNat : Int)) ∧ (z29_128 a).succ.le (mdSt a1).toNat
abbrev z29_130 (a : GK2) : List Int := rng a.a.s.bs.length fun (i : Nat) => gD a.a.s.bs i
abbrev z29_131 (a : GK2) : Nat := (z29_130 a).length
abbrev z29_132 (a : GK2) : Prop := z29_131 a = a.a.s.bs.length
abbrev z29_133 (a : GK2) : Prop := ∀ (i : Nat), i < z29_131 a → gD (z29_130 a) i = gD a.a.s.bs i
abbrev z29_134 (a : GK2) : Prop := a.a.s.used = a.a.s.used
abbrev z29_135 (a : GK2) : Prop := a.a.s.mix = a.a.s.mix
abbrev z29_136 (a : GK2) : Prop := (0 : Int) ≤ a.a.s.used
abbrev z29_137 (a : GK2) : Stm := Stm.mk (z29_130 a) a.a.s.used a.a.s.mix
abbrev z29_138 (a : GK2) : Stm := nextS (z29_137 a) (9 : Int)
abbrev z29_139 (a : GK2) : List Int := (z29_138 a).bs
abbrev z29_140 (a : GK2) : Nat := (z29_139 a).length
abbrev z29_141 (a : GK2) (i : Nat) : Int := gD (z29_139 a) i
abbrev z29_142 (a : GK2) : List Int := rng (z29_140 a) fun (i : Nat) => z29_141 a i
abbrev z29_143 (a : GK2) : Nat := (z29_142 a).length
abbrev z29_144 (a : GK2) : Prop := z29_143 a = z29_140 a
abbrev z29_145 (a : GK2) : Prop := ∀ (i : Nat), i < z29_143 a → gD (z29_142 a) i = z29_141 a i
abbrev z29_146 (a : GK2) : Int := (z29_138 a).used
abbrev z29_147 (a : GK2) : Prop := z29_146 a = z29_146 a
abbrev z29_148 (a : GK2) : Int := (z29_138 a).mix
abbrev z29_149 (a : GK2) : Prop := z29_148 a = z29_148 a
abbrev z29_150 (a : GK2) : Prop := (0 : Int) ≤ z29_146 a
abbrev z29_151 : Prop := (2 : Nat) = (2 : Nat)
abbrev z29_152 : Prop := z29_69 ∧ (z29_70 → z29_151)
abbrev z29_153 (a : GK2) (a1 : GK2) : Prop := (↑a.k : Int) = IntKind.i64.wrap ((↑a1.k : Int) + (1 : Int))
abbrev z29_154 (a : GK2) : Stm := Stm.mk (z29_142 a) (z29_146 a) (z29_148 a)
abbrev z29_155 (a : GK2) : Stm := nextS (z29_154 a) (9 : Int)
abbrev z29_156 (a : GK2) : List Int := (z29_155 a).bs
abbrev z29_157 (a : GK2) (a1 : GK2) : Prop := a.a.s.bs.length = (z29_156 a1).length
abbrev z29_158 (a : GK2) (a1 : GK2) : Prop := ∀ (i : Nat), z29_119 i a → gD a.a.s.bs i = gD (z29_156 a1) i
abbrev z29_159 (a : GK2) (a1 : GK2) : Prop := a.a.s.used = (z29_155 a1).used
abbrev z29_160 (a : GK2) (a1 : GK2) : Prop := a.a.s.mix = (z29_155 a1).mix
abbrev z29_161 (a : GK2) : Prop := a.a.g.length = (1 : Nat)
abbrev z29_162 (a : GK2) : Prop := a.a.t.length = (1 : Nat)
abbrev z29_163 (a : SN) (a1 : GK2) : Int := IntKind.i64.wrap ((0 : Int) - gD (mdR a).m (z29_128 a1))
abbrev z29_164 (a : SN) (a1 : GK2) : Int := IntKind.i64.wrap (z29_163 a a1 - nextV (z29_137 a1) (9 : Int))
abbrev z29_165 (a : SN) (a1 : GK2) : Int := IntKind.i64.wrap (z29_163 a a1 + nextV (z29_154 a1) (9 : Int))
abbrev z29_166 (a : SN) (a1 : GK2) : Nat := (mdSt a).toNat - a1.k
abbrev z29_167 (a : SN) (a1 : GK2) (a2 : GK2) : Prop := z29_125 a a1 ∧ z29_166 a a1 < z29_166 a a2
abbrev z29_168 (a : SN) : Prop := (madeN a).g.length = (0 : Nat)
abbrev z29_169 (a : SN) : Prop := (madeN a).r.length = (mdR a).r.length
abbrev z29_170 (a : SN) : Prop := ∀ (i : Nat), i < (madeN a).r.length → (gD (madeN a).r i).fr = (gD (mdR a).r i).fr ∧ (gD (madeN a).r i).to = (gD (mdR a).r i).to ∧ (gD (madeN a).r i).sp.lo = (gD (mdR a).r i).sp.lo ∧ (gD
 (madeN a).r i).sp.hi = (gD (mdR a).r i).sp.hi
abbrev z29_171 (a : SN) : Prop := (madeTr a).f.length = (mdR a).f.length
abbrev z29_172 (a : SN) : Prop := ∀ (i : Nat), i < (madeTr a).f.length → gD (madeTr a).f i = gD (mdR a).f i
abbrev z29_173 (a : SN) : Prop := (madeTr a).t.length = (0 : Nat)
abbrev z29_174 (a : SN) (a1 : GK2) : Prop := (mdG a).s.bs.length = a1.a.s.bs.length ∧ (∀ (i : Nat), i < (mdG a).s.bs.length → gD (mdG a).s.bs i = gD a1.a.s.bs i) ∧ (mdG a).s.used = a1.a.s.used ∧ (mdG a).s.mix =
 a1.a.s.mix
abbrev z29_175 (a : GK2) : Nat := a.a.g.length + (1 : Nat)
abbrev z29_176 (a : GK2) : Nat := a.a.t.length + (1 : Nat)
abbrev z29_177 (a : GK2) (a1 : GK2) : Prop := a.a.g.length = z29_175 a1
abbrev z29_178 (a : GK2) (a1 : GK2) : Prop := a.a.t.length = z29_176 a1
abbrev z29_179 (i : Nat) (a : GK2) : Bool := decide (i < a.a.g.length)
abbrev z29_180 (a : GK2) (j : Nat) : Span := gD a.a.g (z29_116 j)
theorem vc29 (a : SN) : (V29 a) = ((z29_0 ∧ a.n = a.n ∧ z29_2 a = a.s.bs.length ∧ (∀ (i : Nat), i < z29_2 a → gD (z29_1 a) i = gD a.s.bs i) ∧ a.s.used = a.s.used ∧ a.s.mix = a.s.mix ∧ (a.s.used - (0 : Int)).NonNeg) ∧ ((0
 : Int) ≤ z29_4 a ∧ z29_4 a = z29_4 a ∧ z29_4 a ≤ (9223372036854775807 : Int) ∧ (↑(8 : Nat) : Int) * z29_4 a ≤ (281474976710656 : Int)) ∧ (((12 : Int) = Int.ofNat (12 : Nat) ∧ z29_10 a = z29_7 a ∧ (∀ (i : Nat), i < z29_10
 a → gD (z29_9 a) i = z29_8 a i) ∧ z29_11 a = z29_11 a ∧ z29_12 a = z29_12 a ∧ (z29_11 a - (0 : Int)).NonNeg) ∧ (∃ (a_1 : MK), (mdSt a = z29_4 a ∧ z29_13 ∧ z29_14 a ∧ (↑a_1.k : Int) = nextV (z29_15 a) (12 : Int) ∧
 a_1.a.s.bs.length = (z29_17 a).length ∧ (∀ (i : Nat), z29_18 i a_1 → gD a_1.a.s.bs i = gD (z29_17 a) i) ∧ a_1.a.s.used = (z29_16 a).used ∧ a_1.a.s.mix = (z29_16 a).mix ∧ z29_13 ∧ z29_19 ∧ z29_13 ∧ z29_19 ∧ z29_13 ∧
 z29_19 ∧ z29_13 ∧ z29_19 ∧ z29_13 ∧ z29_19 ∧ z29_13 ∧ z29_19 ∧ z29_13 ∧ z29_19 ∧ z29_13 ∧ z29_19 ∧ z29_14 a ∧ ∀ (i : Nat), i < (mdSt a).toNat → gD a_1.a.m i = (0 : Int)) ∧ z29_22 a a_1) ∧ (∀ (a_1 : MK), z29_22 a a_1 →
 bif z29_23 a_1 a then z29_26 a a_1 ∧ z29_37 a a_1 ∧ z29_47 a_1 a ∧ z29_67 a_1 a ∧ (((True ∧ (z29_68 → (0 : Nat) = (4 : Nat))) ∧ z29_72 ∧ z29_73 ∧ z29_74 ∧ (32 : Nat) ≤ (140737488355328 : Nat)) ∧ z29_77) ∧ z29_85 a_1 a ∧
 ∃ (a_3 : MK), (mdSt a = mdSt a ∧ z29_13 ∧ (mdSt a).toNat = (mdSt a).toNat ∧ z29_86 a_3 a_1 ∧ z29_90 a_3 a_1 a ∧ z29_91 a_3 a_1 a ∧ z29_92 a_3 a_1 a ∧ z29_93 a_3 a_1 a ∧ z29_13 ∧ z29_19 ∧ z29_13 ∧ z29_19 ∧ z29_13 ∧ z29_19
 ∧ z29_13 ∧ z29_19 ∧ z29_13 ∧ z29_19 ∧ z29_13 ∧ z29_94 a_3 ∧ z29_13 ∧ z29_95 a_3 ∧ z29_13 ∧ z29_19 ∧ (mdSt a).toNat = (mdSt a).toNat ∧ z29_97 a a_3 a_1 ∧ z29_94 a_3 ∧ (∀ (i : Nat), i < a_3.a.r.length → (gD a_3.a.r i).fr =
 z29_78 a_1 a ∧ (gD a_3.a.r i).to = z29_82 a_1 a ∧ (gD a_3.a.r i).sp.lo = z29_98 a_1 a ∧ (gD a_3.a.r i).sp.hi = z29_99 a_1 a) ∧ z29_95 a_3 ∧ ∀ (i : Nat), i < a_3.a.f.length → gD a_3.a.f i = z29_96 a_1 a) ∧ z29_100 a a_3
 a_1 else ∃ (a_3 : Stm), (mdSt a = mdSt a ∧ z29_13 ∧ (mdSt a).toNat = (mdSt a).toNat ∧ z29_101 a_3 a_1 ∧ z29_102 a_3 a_1 ∧ a_3.used = a_1.a.s.used ∧ a_3.mix = a_1.a.s.mix ∧ z29_13 ∧ z29_19 ∧ z29_13 ∧ z29_19 ∧ z29_13 ∧
 z29_19 ∧ z29_13 ∧ z29_19 ∧ z29_13 ∧ z29_19 ∧ z29_103 a ∧ z29_103 a ∧ z29_104 a ∧ z29_104 a ∧ z29_105 a a_1) ∧ z29_109 a a_3) ∧ ∀ (a_1 : MK), z29_21 a a_1 → bif z29_23 a_1 a then z29_26 a a_1 ∧ z29_37 a a_1 ∧ z29_47 a_1 a
 ∧ z29_67 a_1 a ∧ (((a_1.a.r.length = a_1.a.r.length ∧ ((0 : Nat) < a_1.a.r.length → z29_71)) ∧ z29_72 ∧ z29_110 ∧ z29_111 a_1 ≤ (9223372036854775807 : Nat) ∧ z29_111 a_1 * (32 : Nat) ≤ (140737488355328 : Nat)) ∧
 (a_1.a.f.length = a_1.a.f.length ∧ ((0 : Nat) < a_1.a.f.length → z29_75)) ∧ z29_76 ∧ z29_110 ∧ z29_112 a_1 ≤ (9223372036854775807 : Nat) ∧ z29_112 a_1 * (8 : Nat) ≤ (140737488355328 : Nat)) ∧ z29_85 a_1 a ∧ ∃ (a_3 : MK),
 (mdSt a = mdSt a ∧ z29_13 ∧ (mdSt a).toNat = (mdSt a).toNat ∧ z29_86 a_3 a_1 ∧ z29_90 a_3 a_1 a ∧ z29_91 a_3 a_1 a ∧ z29_92 a_3 a_1 a ∧ z29_93 a_3 a_1 a ∧ z29_13 ∧ z29_19 ∧ z29_13 ∧ z29_19 ∧ z29_13 ∧ z29_19 ∧ z29_13 ∧
 z29_19 ∧ z29_13 ∧ z29_19 ∧ z29_13 ∧ z29_113 a_3 a_1 ∧ z29_13 ∧ z29_114 a_3 a_1 ∧ z29_13 ∧ z29_19 ∧ (mdSt a).toNat = (mdSt a).toNat ∧ z29_97 a a_3 a_1 ∧ z29_113 a_3 a_1 ∧ (∀ (i : Nat), i < a_3.a.r.length → ((gD a_3.a.r
 i).fr = bif z29_115 i a_1 then (gD a_1.a.r i).fr else z29_78 a_1 a) ∧ ((gD a_3.a.r i).to = bif z29_115 i a_1 then (gD a_1.a.r i).to else z29_82 a_1 a) ∧ ((gD a_3.a.r i).sp.lo = bif z29_115 i a_1 then (gD a_1.a.r i).sp.lo
 else z29_98 a_1 a) ∧ (gD a_3.a.r i).sp.hi = bif z29_115 i a_1 then (gD a_1.a.r i).sp.hi else z29_99 a_1 a) ∧ z29_114 a_3 a_1 ∧ ∀ (i : Nat), i < a_3.a.f.length → gD a_3.a.f i = bif decide (i < a_1.a.f.length) then gD
 a_1.a.f i else z29_96 a_1 a) ∧ z29_100 a a_3 a_1 else ∃ (a_3 : Stm), (mdSt a = mdSt a ∧ z29_13 ∧ (mdSt a).toNat = (mdSt a).toNat ∧ z29_101 a_3 a_1 ∧ z29_102 a_3 a_1 ∧ a_3.used = a_1.a.s.used ∧ a_3.mix = a_1.a.s.mix ∧
 z29_13 ∧ z29_19 ∧ z29_13 ∧ z29_19 ∧ z29_13 ∧ z29_19 ∧ z29_13 ∧ z29_19 ∧ z29_13 ∧ z29_19 ∧ (mdR a).r.length = a_1.a.r.length ∧ (0 : Nat) + a_1.a.r.length ≤ a_1.a.r.length ∧ (∀ (j : Nat), j < (mdR a).r.length → (gD (mdR
 a).r j).fr = (z29_117 a_1 j).fr ∧ (gD (mdR a).r j).to = (z29_117 a_1 j).to ∧ (gD (mdR a).r j).sp.lo = (z29_118 a_1 j).lo ∧ (gD (mdR a).r j).sp.hi = (z29_118 a_1 j).hi) ∧ (mdR a).f.length = a_1.a.f.length ∧ (0 : Nat) +
 a_1.a.f.length ≤ a_1.a.f.length ∧ (∀ (j : Nat), j < (mdR a).f.length → gD (mdR a).f j = gD a_1.a.f (z29_116 j)) ∧ z29_105 a a_1) ∧ z29_109 a a_3) ∧ ∀ (a_1 : Stm), z29_109 a a_1 → (∃ (a_3 : GK2), (mdSt a = mdSt a ∧ z29_13
 ∧ (mdSt a).toNat = (mdSt a).toNat ∧ (↑a_3.k : Int) = (0 : Int) ∧ a_3.a.s.bs.length = a_1.bs.length ∧ (∀ (i : Nat), z29_119 i a_3 → gD a_3.a.s.bs i = gD a_1.bs i) ∧ a_3.a.s.used = a_1.used ∧ a_3.a.s.mix = a_1.mix ∧ z29_13
 ∧ z29_19 ∧ z29_13 ∧ z29_19 ∧ z29_13 ∧ z29_19 ∧ z29_13 ∧ z29_19 ∧ z29_13 ∧ z29_19 ∧ z29_120 a ∧ z29_121 a ∧ z29_122 a ∧ z29_123 a ∧ z29_13 ∧ z29_19 ∧ (mdSt a).toNat = (mdSt a).toNat ∧ z29_124 a) ∧ z29_126 a a_3) ∧ (∀ (a_3
 : GK2), z29_126 a a_3 → bif z29_127 a_3 a then z29_129 a_3 a ∧ (z29_48 ∧ z29_132 a_3 ∧ z29_133 a_3 ∧ z29_134 a_3 ∧ z29_135 a_3 ∧ z29_136 a_3 ∧ z29_48 ∧ z29_144 a_3 ∧ z29_145 a_3 ∧ z29_147 a_3 ∧ z29_149 a_3 ∧ z29_150 a_3
 ∧ ((True ∧ (z29_68 → (0 : Nat) = (2 : Nat))) ∧ z29_152 ∧ z29_73 ∧ z29_74 ∧ (16 : Nat) ≤ (140737488355328 : Nat)) ∧ z29_77) ∧ ∃ (a_5 : GK2), (mdSt a = mdSt a ∧ z29_13 ∧ (mdSt a).toNat = (mdSt a).toNat ∧ z29_153 a_5 a_3 ∧
 z29_157 a_5 a_3 ∧ z29_158 a_5 a_3 ∧ z29_159 a_5 a_3 ∧ z29_160 a_5 a_3 ∧ z29_13 ∧ z29_19 ∧ z29_13 ∧ z29_19 ∧ z29_13 ∧ z29_19 ∧ z29_13 ∧ z29_19 ∧ z29_13 ∧ z29_161 a_5 ∧ z29_120 a ∧ z29_121 a ∧ z29_122 a ∧ z29_123 a ∧
 z29_13 ∧ z29_162 a_5 ∧ (mdSt a).toNat = (mdSt a).toNat ∧ z29_124 a ∧ z29_161 a_5 ∧ (∀ (i : Nat), i < a_5.a.g.length → (gD a_5.a.g i).lo = z29_164 a a_3 ∧ (gD a_5.a.g i).hi = z29_165 a a_3) ∧ z29_162 a_5 ∧ ∀ (i : Nat), i
 < a_5.a.t.length → gD a_5.a.t i = z29_163 a a_3) ∧ z29_167 a a_5 a_3 else z29_168 a ∧ z29_168 a ∧ z29_169 a ∧ z29_170 a ∧ z29_171 a ∧ z29_172 a ∧ z29_173 a ∧ z29_173 a ∧ z29_174 a a_3) ∧ ∀ (a_3 : GK2), z29_125 a a_3 →
 bif z29_127 a_3 a then z29_129 a_3 a ∧ (z29_48 ∧ z29_132 a_3 ∧ z29_133 a_3 ∧ z29_134 a_3 ∧ z29_135 a_3 ∧ z29_136 a_3 ∧ z29_48 ∧ z29_144 a_3 ∧ z29_145 a_3 ∧ z29_147 a_3 ∧ z29_149 a_3 ∧ z29_150 a_3 ∧ ((a_3.a.g.length =
 a_3.a.g.length ∧ ((0 : Nat) < a_3.a.g.length → z29_151)) ∧ z29_152 ∧ z29_110 ∧ z29_175 a_3 ≤ (9223372036854775807 : Nat) ∧ z29_175 a_3 * (16 : Nat) ≤ (140737488355328 : Nat)) ∧ (a_3.a.t.length = a_3.a.t.length ∧ ((0 :
 Nat) < a_3.a.t.length → z29_75)) ∧ z29_76 ∧ z29_110 ∧ z29_176 a_3 ≤ (9223372036854775807 : Nat) ∧ z29_176 a_3 * (8 : Nat) ≤ (140737488355328 : Nat)) ∧ ∃ (a_5 : GK2), (mdSt a = mdSt a ∧ z29_13 ∧ (mdSt a).toNat = (mdSt
 a).toNat ∧ z29_153 a_5 a_3 ∧ z29_157 a_5 a_3 ∧ z29_158 a_5 a_3 ∧ z29_159 a_5 a_3 ∧ z29_160 a_5 a_3 ∧ z29_13 ∧ z29_19 ∧ z29_13 ∧ z29_19 ∧ z29_13 ∧ z29_19 ∧ z29_13 ∧ z29_19 ∧ z29_13 ∧ z29_177 a_5 a_3 ∧ z29_120 a ∧ z29_121
 a ∧ z29_122 a ∧ z29_123 a ∧ z29_13 ∧ z29_178 a_5 a_3 ∧ (mdSt a).toNat = (mdSt a).toNat ∧ z29_124 a ∧ z29_177 a_5 a_3 ∧ (∀ (i : Nat), i < a_5.a.g.length → ((gD a_5.a.g i).lo = bif z29_179 i a_3 then (gD a_3.a.g i).lo else
 z29_164 a a_3) ∧ (gD a_5.a.g i).hi = bif z29_179 i a_3 then (gD a_3.a.g i).hi else z29_165 a a_3) ∧ z29_178 a_5 a_3 ∧ ∀ (i : Nat), i < a_5.a.t.length → gD a_5.a.t i = bif decide (i < a_3.a.t.length) then gD a_3.a.t i
 else z29_163 a a_3) ∧ z29_167 a a_5 a_3 else (madeN a).g.length = a_3.a.g.length ∧ (0 : Nat) + a_3.a.g.length ≤ a_3.a.g.length ∧ (∀ (j : Nat), j < (madeN a).g.length → (gD (madeN a).g j).lo = (z29_180 a_3 j).lo ∧ (gD
 (madeN a).g j).hi = (z29_180 a_3 j).hi) ∧ z29_169 a ∧ z29_170 a ∧ z29_171 a ∧ z29_172 a ∧ (madeTr a).t.length = a_3.a.t.length ∧ (0 : Nat) + a_3.a.t.length ≤ a_3.a.t.length ∧ (∀ (j : Nat), j < (madeTr a).t.length → gD
 (madeTr a).t j = gD a_3.a.t (z29_116 j)) ∧ z29_174 a a_3) := by kernel_rfl
theorem md1 (a : SN) : witV a.s 1 a.n = mdSt a := rfl
theorem md2 (a : SN) : witS a.s 1 a.n = mdS1 a := rfl
theorem md3 (a : SN) : nextV (mdS1 a) 12 = mdI a := rfl
theorem md4 (st : Int) (a : MS) : witS (nextS a.s st) 1 (IntKind.i64.wrap (st - 1)) = madeX st a := rfl
theorem md5 (st : Int) (a : MS) : witS (madeX st a) (-20) 120 = madeY st a := rfl
theorem md6 (st : Int) (a : MS) : witV (madeX st a) (-20) 120 = madeV st a := rfl
theorem md7 (st : Int) (a : MS) : nextV a.s st = madeF st a := rfl
theorem md8 (st : Int) (a : MS) : (IntKind.i64.wrap (madeF st a + witV (nextS a.s st) 1 (IntKind.i64.wrap (st - 1)))).tmod st = madeT st a := rfl
theorem md9 (st : Int) (a : MS) : nextS (nextS (madeY st a) 9) 9 = (madeR st a).s := by simp only [madeR]
structure Mx (st : Int) (K : Int) (a : MS) : Prop where
  s0 : StmB (K + 1) (nextS a.s st)
  x : StmB (K + 2) (madeX st a)
  y : StmB (K + 3) (madeY st a)
  z : StmB (K + 4) (nextS (madeY st a) 9)
  s : StmB (K + 5) (madeR st a).s
  fr : 0 ≤ madeF st a ∧ madeF st a < st
  to : 0 ≤ madeT st a ∧ madeT st a < st
  ne : madeF st a ≠ madeT st a
  v : -20 ≤ madeV st a ∧ madeV st a ≤ 120
  lo : 0 ≤ nextV (madeY st a) 9 ∧ nextV (madeY st a) 9 < 9
  hi : 0 ≤ nextV (nextS (madeY st a) 9) 9 ∧ nextV (nextS (madeY st a) 9) 9 < 9
theorem madeR_ok {st K : Int} (hst : 2 ≤ st ∧ st ≤ 8) {a : MS} (h : StmB K a.s) (hK : K ≤ 100000000000000) : Mx st K a := by
  have s0 := h.next (by omega) st
  have ew : wr (st - 1) = st - 1 := w64 (by omega) (by omega)
  have x : StmB (K + 2) (madeX st a) := (s0.next (by omega) (witN 1 (wr (st - 1)))).mono (by omega)
  have y : StmB (K + 3) (madeY st a) := (x.next (by omega) (witN (-20) 120)).mono (by omega)
  have z : StmB (K + 4) (nextS (madeY st a) 9) := (y.next (by omega) 9).mono (by omega)
  have s : StmB (K + 5) (madeR st a).s := (z.next (by omega) 9).mono (by omega)
  have f := nextV_in h (by omega) st
  have fr : 0 ≤ madeF st a ∧ madeF st a < st := ⟨f.1, f.2 (by omega)⟩
  have w := witV_in s0 (by omega) (lo := 1) (hi := wr (st - 1)) (by omega) (by omega) (by omega)
  rw [ew] at w
  have e : wr (nextV a.s st + witV (nextS a.s st) 1 (st - 1)) = nextV a.s st + witV (nextS a.s st) 1 (st - 1) := w64 (by omega) (by omega)
  have et : madeT st a = (nextV a.s st + witV (nextS a.s st) 1 (st - 1)) % st := by
    unfold madeT; rw [ew, e, Int.tmod_eq_emod_of_nonneg (by omega)]
  have to : 0 ≤ madeT st a ∧ madeT st a < st := by rw [et]; exact ⟨Int.emod_nonneg _ (by omega), Int.emod_lt_of_pos _ (by omega)⟩
  refine ⟨s0, x, y, z, s, fr, to, ?_, witV_in x (by omega) (by omega) (by omega) (by omega), ?_, ?_⟩
  · rw [et]
    unfold madeF
    intro he
    by_cases hlt : nextV a.s st + witV (nextS a.s st) 1 (st - 1) < st
    · rw [Int.emod_eq_of_lt (by omega) hlt] at he; omega
    · rw [← Int.sub_emod_right, Int.emod_eq_of_lt (by omega) (by omega)] at he; omega
  · have := nextV_in y (by omega) 9; exact ⟨this.1, this.2 (by omega)⟩
  · have := nextV_in z (by omega) 9; exact ⟨this.1, this.2 (by omega)⟩
theorem mr_len (st : Int) (a : MS) : (madeR st a).r.length = a.r.length + 1 ∧ (madeR st a).f.length = a.f.length + 1 ∧ (madeR st a).m.length = a.m.length := by simp [madeR]
theorem mr_r (st : Int) (a : MS) {i : Nat} (hi : i < a.r.length + 1) : (gD (madeR st a).r i).fr = (bif decide (i < a.r.length) then (gD a.r i).fr else madeF st a) ∧ (gD (madeR st a).r i).to = (bif decide (i < a.r.length) then (gD a.r i).to else madeT st a) ∧ (gD (madeR st a).r i).sp.lo = (bif decide (i < a.r.length) then (gD a.r i).sp.lo else wr (madeV st a - nextV (madeY st a) 9)) ∧ (gD (madeR st a).r i).sp.hi = (bif decide (i < a.r.length) then (gD a.r i).sp.hi else wr (madeV st a + nextV (nextS (madeY st a) 9) 9)) := by
  have e : (madeR st a).r = a.r ++ [⟨madeF st a, madeT st a, ⟨wr (madeV st a - nextV (madeY st a) 9), wr (madeV st a + nextV (nextS (madeY st a) 9) 9)⟩⟩] := by simp only [madeR]
  rw [e, gD_append]
  by_cases h : i < a.r.length
  · simp [h]
  · have : i - a.r.length = 0 := by omega
    simp only [h, if_false, decide_false, cond_false, this]
    exact ⟨rfl, rfl, rfl, rfl⟩
theorem mr_f (st : Int) (a : MS) {i : Nat} (hi : i < a.f.length + 1) : gD (madeR st a).f i = bif decide (i < a.f.length) then gD a.f i else madeV st a := by
  have e : (madeR st a).f = a.f ++ [madeV st a] := by simp only [madeR]
  rw [e, gD_append]
  by_cases h : i < a.f.length
  · simp [h]
  · have : i - a.f.length = 0 := by omega
    simp only [h, if_false, decide_false, cond_false, this]; rfl
theorem mr_m {st : Int} {a : MS} (hf : (madeF st a).toNat < a.m.length) (ht : (madeT st a).toNat < a.m.length) (hne : (madeT st a).toNat ≠ (madeF st a).toNat) (i : Nat) : gD (madeR st a).m i = bif decide (i = (madeT st a).toNat) then wr (gD a.m (madeT st a).toNat + madeV st a) else bif decide (i = (madeF st a).toNat) then wr (gD a.m (madeF st a).toNat - madeV st a) else gD a.m i := by
  have e : (madeR st a).m = (a.m.modify (madeF st a).toNat fun y => wr (y - madeV st a)).modify (madeT st a).toNat fun y => wr (y + madeV st a) := by simp only [madeR]
  rw [e, gD_modify (by rw [List.length_modify]; exact ht), gD_modify hf, gD_modify hf, if_neg hne]
  by_cases h1 : i = (madeT st a).toNat
  · simp [h1]
  · by_cases h2 : i = (madeF st a).toNat
    · simp [h1, h2]
    · simp [h1, h2]
theorem mg_len (x : Int) (a : GS) : (madeG x a).g.length = a.g.length + 1 ∧ (madeG x a).t.length = a.t.length + 1 := by simp [madeG]
theorem mg_g (x : Int) (a : GS) {i : Nat} (hi : i < a.g.length + 1) : (gD (madeG x a).g i).lo = (bif decide (i < a.g.length) then (gD a.g i).lo else wr (x - nextV a.s 9)) ∧ (gD (madeG x a).g i).hi = (bif decide (i < a.g.length) then (gD a.g i).hi else wr (x + nextV (nextS a.s 9) 9)) := by
  have e : (madeG x a).g = a.g ++ [⟨wr (x - nextV a.s 9), wr (x + nextV (nextS a.s 9) 9)⟩] := by simp only [madeG]
  rw [e, gD_append]
  by_cases h : i < a.g.length
  · simp [h]
  · have : i - a.g.length = 0 := by omega
    simp only [h, if_false, decide_false, cond_false, this]
    exact ⟨rfl, rfl⟩
theorem mg_t (x : Int) (a : GS) {i : Nat} (hi : i < a.t.length + 1) : gD (madeG x a).t i = bif decide (i < a.t.length) then gD a.t i else x := by
  have e : (madeG x a).t = a.t ++ [x] := by simp only [madeG]
  rw [e, gD_append]
  by_cases h : i < a.t.length
  · simp [h]
  · have : i - a.t.length = 0 := by omega
    simp only [h, if_false, decide_false, cond_false, this]; rfl
theorem mg_s (x : Int) (a : GS) : (madeG x a).s = nextS (nextS a.s 9) 9 := by simp only [madeG]
theorem and_b {a b : Bool} : (bif a then b else false) = true ↔ a = true ∧ b = true := by cases a <;> simp
theorem p29 (a : SN) (h1 : StmB 1000000000 a.s) (h2 : 1 ≤ a.n ∧ a.n ≤ 8) : V29 a := by
  have hst : 1 ≤ mdSt a ∧ mdSt a ≤ 8 := by
    have := witV_in h1 (by omega) (lo := 1) (hi := a.n) (by omega) h2.1 (by omega)
    exact ⟨this.1, by show witV _ _ _ ≤ _; omega⟩
  have hs1 : StmB 1000000001 (mdS1 a) := (h1.next (by omega) (witN 1 a.n)).mono (by omega)
  have hI := nextV_in hs1 (by omega) 12
  have hI1 : 0 ≤ mdI a := hI.1
  have hI2 : mdI a < 12 := hI.2 (by omega)
  have hs2 : StmB 1000000002 (nextS (mdS1 a) 12) := (hs1.next (by omega) 12).mono (by omega)
  rw [vc29]; delta z29_0 z29_1 z29_2 z29_3 z29_4 z29_5 z29_6 z29_7 z29_8 z29_9 z29_10 z29_11 z29_12 z29_13 z29_14 z29_15 z29_16 z29_17 z29_18 z29_19 z29_20 z29_21 z29_22 z29_23 z29_24 z29_25 z29_26 z29_27 z29_28 z29_29 z29_30 z29_31 z29_32 z29_33 z29_34 z29_35 z29_36 z29_37 z29_38 z29_39 z29_40 z29_41 z29_42 z29_43 z29_44 z29_45 z29_46 z29_47 z29_48 z29_49 z29_50 z29_51 z29_52 z29_53 z29_54 z29_55 z29_56 z29_57 z29_58 z29_59 z29_60 z29_61 z29_62 z29_63 z29_64 z29_65 z29_66 z29_67 z29_68 z29_69 z29_70 z29_71 z29_72 z29_73 z29_74 z29_75 z29_76 z29_77 z29_78 z29_79 z29_80 z29_81 z29_82 z29_83 z29_84 z29_85 z29_86 z29_87 z29_88 z29_89 z29_90 z29_91 z29_92 z29_93 z29_94 z29_95 z29_96 z29_97 z29_98 z29_99 z29_100 z29_101 z29_102 z29_103 z29_104 z29_105 z29_106 z29_107 z29_108 z29_109 z29_110 z29_111 z29_112 z29_113 z29_114 z29_115 z29_116 z29_117 z29_118 z29_119 z29_120 z29_121 z29_122 z29_123 z29_124 z29_125 z29_126 z29_127 z29_128 z29_129 z29_130 z29_131 z29_132 z29_133 z29_134 z29_135 z29_136 z29_137 z29_138 z29_139 z29_140 z29_141 z29_142 z29_143 z29_144 z29_145 z29_146 z29_147 z29_148 z29_149 z29_150 z29_151 z29_152 z29_153 z29_154 z29_155 z29_156 z29_157 z29_158 z29_159 z29_160 z29_161 z29_162 z29_163 z29_164 z29_165 z29_166 z29_167 z29_168 z29_169 z29_170 z29_171 z29_172 z29_173 z29_174 z29_175 z29_176 z29_177 z29_178 z29_179 z29_180; simp only [condP, eq_self, implies_true, and_self, true_and, and_true, true_implies, forall_const, decide_eq_true_eq, decide_eq_false_iff_not, Int.toNat_natCast, dSpan_eSpan, dReach_eReach, dWay_eWay, dStep_eStep, dFar_eFar, dInt_eInt, Nat.zero_add, Int.zero_sub, Nat.le_eq, Nat.succ_eq_add_one, Nat.add_one_le_iff, Bool.not_eq_true', Bool.not_eq_false', rng_length, dSpan_mk, dReach_mk, dWay_mk, dStep_mk, dFar_mk, rng_getD, DL.m2, md1, md2, md3, md4, md5, md6, md7, md8, md9]
  have hz : (mdZ a).m.length = (mdSt a).toNat := by simp [mdZ]
  refine ⟨⟨rfl, h1.used.1⟩, ⟨by omega, by omega, by omega⟩, ⟨⟨rfl, hs1.used.1⟩, ⟨⟨mdZ a, (mdI a).toNat⟩, ⟨by simp only; omega, rfl, fun _ _ => rfl, rfl, rfl, fun i hi => ?_⟩, ⟨hst, hs2.mono (by simp only; omega), by simp only; omega, rfl, by simp only [mdZ, List.length_nil]; omega, hz, rfl⟩, rfl, rfl⟩, ?LA, ?LB⟩, ?CC⟩
  · show gD (List.replicate (mdSt a).toNat 0) i = 0
    rw [gD_replicate, if_pos hi]
  case LA =>
    intro s ⟨⟨_, q1, q2, q3, q4, q5, q6⟩, r0, f0⟩
    refine ⟨fun hc => ?_, fun hc => ?_⟩
    · have hc := and_b.1 hc
      have c1 : 0 < s.k := by have := of_decide_eq_true hc.1; omega
      have c2 : 1 < mdSt a := by have := of_decide_eq_true hc.2; omega
      have M := madeR_ok (st := mdSt a) (by omega) q1 (by omega)
      obtain ⟨k, hk⟩ : ∃ k, s.k = k + 1 := ⟨s.k - 1, by omega⟩
      obtain ⟨n1, n2, n3⟩ := mr_len (mdSt a) s.a
      have hfr := M.fr
      have hto := M.to
      have hne := M.ne
      have hrl : s.a.r.length = 0 := by rw [r0]; rfl
      have hfl : s.a.f.length = 0 := by rw [f0]; rfl
      refine ⟨q1.used.1, ⟨rfl, M.s0.used.1, by omega⟩, ⟨rfl, rfl, M.x.used.1⟩, ⟨rfl, M.y.used.1, rfl, M.z.used.1⟩, ⟨⟨by decide, by decide, by decide, by decide, by decide⟩, by decide, by decide, by decide, by decide, by decide⟩, ⟨⟨by omega, by omega⟩, by omega, ⟨by omega, by omega⟩, by omega, ⟨by omega, by omega⟩, by omega, ⟨by omega, by omega⟩, by omega⟩, ⟨⟨madeR (mdSt a) s.a, k⟩, ⟨?_, rfl, fun _ _ => rfl, rfl, rfl, by simp only; omega, by simp only; omega, fun i hi => ?_, by simp only; omega, fun i hi => ?_, by simp only; omega, fun i hi => ?_⟩, ⟨hst, M.s.mono (by simp only; omega), by simp only; omega, by simp only; omega, by simp only; omega, by simp only; omega, ?_⟩, by simp only; omega⟩⟩
      · show (k : Int) = IntKind.i64.wrap ((s.k : Int) - 1)
        rw [w64 (by omega) (by omega)]; omega
      · exact mr_m (by omega) (by omega) (by omega) i
      · have := mr_r (mdSt a) s.a (i := i) (by simp only at hi; omega)
        simp only [show ¬ i < s.a.r.length by omega, decide_false, cond_false] at this
        exact this
      · have := mr_f (mdSt a) s.a (i := i) (by simp only at hi; omega)
        simp only [show ¬ i < s.a.f.length by omega, decide_false, cond_false] at this
        exact this
      · rw [if_pos c2, hk] at q6
        rw [if_pos c2]; exact q6
    · have hR : mdR a = s.a := by
        rw [← q6]
        by_cases c2 : 1 < mdSt a
        · have : ¬ 0 < s.k := fun h => by
            rw [decide_eq_true (show (s.k : Int) > 0 by omega), decide_eq_true (show mdSt a > 1 by omega)] at hc; cases hc
          rw [if_pos c2, show s.k = 0 by omega]; rfl
        · rw [if_neg c2]
      rw [hR]
      have hrl : s.a.r.length = 0 := by rw [r0]; rfl
      have hfl : s.a.f.length = 0 := by rw [f0]; rfl
      exact ⟨s.a.s, ⟨rfl, fun _ _ => rfl, rfl, rfl, hrl, hrl, hfl, hfl, fun _ _ => rfl⟩, hst, q1.mono (by omega), rfl, q5, q3, by omega⟩
  case LB =>
    intro s ⟨_, q1, q2, q3, q4, q5, q6⟩
    refine ⟨fun hc => ?_, fun hc => ?_⟩
    · have hc := and_b.1 hc
      have c1 : 0 < s.k := by have := of_decide_eq_true hc.1; omega
      have c2 : 1 < mdSt a := by have := of_decide_eq_true hc.2; omega
      have M := madeR_ok (st := mdSt a) (by omega) q1 (by omega)
      obtain ⟨k, hk⟩ : ∃ k, s.k = k + 1 := ⟨s.k - 1, by omega⟩
      obtain ⟨n1, n2, n3⟩ := mr_len (mdSt a) s.a
      have hfr := M.fr
      have hto := M.to
      have hne := M.ne
      refine ⟨q1.used.1, ⟨rfl, M.s0.used.1, by omega⟩, ⟨rfl, rfl, M.x.used.1⟩, ⟨rfl, M.y.used.1, rfl, M.z.used.1⟩, ⟨⟨by decide, by decide, by omega, by omega⟩, by decide, by decide, by omega, by omega⟩, ⟨⟨by omega, by omega⟩, by omega, ⟨by omega, by omega⟩, by omega, ⟨by omega, by omega⟩, by omega, ⟨by omega, by omega⟩, by omega⟩, ⟨⟨madeR (mdSt a) s.a, k⟩, ⟨?_, rfl, fun _ _ => rfl, rfl, rfl, by simp only; omega, by simp only; omega, fun i hi => ?_, by simp only; omega, fun i hi => ?_, by simp only; omega, fun i hi => ?_⟩, ⟨hst, M.s.mono (by simp only; omega), by simp only; omega, by simp only; omega, by simp only; omega, by simp only; omega, ?_⟩, by simp only; omega⟩⟩
      · show (k : Int) = IntKind.i64.wrap ((s.k : Int) - 1)
        rw [w64 (by omega) (by omega)]; omega
      · exact mr_m (by omega) (by omega) (by omega) i
      · exact mr_r (mdSt a) s.a (i := i) (by simp only at hi; omega)
      · exact mr_f (mdSt a) s.a (i := i) (by simp only at hi; omega)
      · rw [if_pos c2, hk] at q6
        rw [if_pos c2]; exact q6
    · have hR : mdR a = s.a := by
        rw [← q6]
        by_cases c2 : 1 < mdSt a
        · have : ¬ 0 < s.k := fun h => by
            rw [decide_eq_true (show (s.k : Int) > 0 by omega), decide_eq_true (show mdSt a > 1 by omega)] at hc; cases hc
          rw [if_pos c2, show s.k = 0 by omega]; rfl
        · rw [if_neg c2]
      rw [hR]
      exact ⟨s.a.s, ⟨rfl, fun _ _ => rfl, rfl, rfl, rfl, Nat.le_refl _, fun _ _ => ⟨rfl, rfl, rfl, rfl⟩, rfl, Nat.le_refl _, fun _ _ => rfl, fun _ _ => rfl⟩, hst, q1.mono (by omega), rfl, q5, q3, by omega⟩
  case CC =>
    intro s ⟨_, q1, q2, q3, q4, q5⟩
    refine ⟨⟨⟨⟨s, [], []⟩, 0⟩, ⟨rfl, rfl, fun _ _ => rfl, rfl, rfl⟩, ⟨hst, q1.mono (by simp only; omega), Nat.zero_le _, rfl, rfl, q3, q4, q5, ?_⟩, rfl⟩, ?GA, ?GB⟩
    · show madeGs (mdR a).m ⟨s, [], []⟩ = mdG a
      rw [q2]; rfl
    case GA =>
      intro g ⟨⟨_, w1, w2, w3, w4, _, _, _, w5⟩, w6⟩
      refine ⟨fun hlt => ?_, fun hge => by omega⟩
      have hk : g.k < (mdR a).m.length := by omega
      rw [drop_gD hk] at w5
      have t1 := w1.next (by omega) 9
      have t2 := t1.next (by omega) 9
      obtain ⟨n1, n2⟩ := mg_len (wr (-gD (mdR a).m g.k)) g.a
      refine ⟨⟨⟨by omega, by omega⟩, by omega⟩, ⟨rfl, w1.used.1, rfl, t1.used.1, ⟨by decide, by decide, by decide, by decide, by decide⟩, by decide, by decide, by decide, by decide, by decide⟩, ⟨⟨madeG (wr (-gD (mdR a).m g.k)) g.a, g.k + 1⟩, ⟨(wsucc (by omega)).symm, by simp only [mg_s], fun _ _ => by simp only [mg_s], by simp only [mg_s], by simp only [mg_s], by simp only; omega, by simp only; omega, by simp only; omega, fun i hi => ?_, by simp only; omega, fun i hi => ?_⟩, ⟨hst, by simp only [mg_s]; exact t2.mono (by omega), by simp only; omega, by simp only; omega, by simp only; omega, q3, q4, q5, w5⟩, by simp only; omega⟩⟩
      · have := mg_g (wr (-gD (mdR a).m g.k)) g.a (i := i) (by simp only at hi; omega)
        simp only [show ¬ i < g.a.g.length by omega, decide_false, cond_false] at this
        exact this
      · have := mg_t (wr (-gD (mdR a).m g.k)) g.a (i := i) (by simp only at hi; omega)
        simp only [show ¬ i < g.a.t.length by omega, decide_false, cond_false] at this
        exact this
    case GB =>
      intro g ⟨_, w1, w2, w3, w4, _, _, _, w5⟩
      refine ⟨fun hlt => ?_, fun hge => ?_⟩
      · have hk : g.k < (mdR a).m.length := by omega
        rw [drop_gD hk] at w5
        have t1 := w1.next (by omega) 9
        have t2 := t1.next (by omega) 9
        obtain ⟨n1, n2⟩ := mg_len (wr (-gD (mdR a).m g.k)) g.a
        refine ⟨⟨⟨by omega, by omega⟩, by omega⟩, ⟨rfl, w1.used.1, rfl, t1.used.1, ⟨by decide, by decide, by omega, by omega⟩, by decide, by decide, by omega, by omega⟩, ⟨⟨madeG (wr (-gD (mdR a).m g.k)) g.a, g.k + 1⟩, ⟨(wsucc (by omega)).symm, by simp only [mg_s], fun _ _ => by simp only [mg_s], by simp only [mg_s], by simp only [mg_s], by simp only; omega, by simp only; omega, by simp only; omega, fun i hi => ?_, by simp only; omega, fun i hi => ?_⟩, ⟨hst, by simp only [mg_s]; exact t2.mono (by omega), by simp only; omega, by simp only; omega, by simp only; omega, q3, q4, q5, w5⟩, by simp only; omega⟩⟩
        · exact mg_g (wr (-gD (mdR a).m g.k)) g.a (i := i) (by simp only at hi; omega)
        · exact mg_t (wr (-gD (mdR a).m g.k)) g.a (i := i) (by simp only at hi; omega)
      · have hk : g.k = (mdR a).m.length := by omega
        rw [hk, List.drop_eq_nil_of_le (Nat.le_refl _)] at w5
        have e : mdG a = g.a := w5.symm
        have e1 : (madeN a).g = g.a.g := by unfold madeN; rw [e]
        have e2 : (madeTr a).t = g.a.t := by unfold madeTr; rw [e]
        rw [e, e1, e2]
        exact ⟨rfl, Nat.le_refl _, fun _ _ => ⟨rfl, rfl⟩, rfl, fun _ _ => ⟨rfl, rfl, rfl, rfl⟩, rfl, fun _ _ => rfl, rfl, Nat.le_refl _, fun _ _ => rfl, rfl, fun _ _ => rfl, rfl, rfl⟩
theorem ok29 : SpecOk Try.prog 29 (C29.spec d33) := okC C29 A29 [] [208, 209] Try.func29 (fun _ => by kernel_rfl) (fun _ => gok_cons ok33 (gok_cons ok43 gok_nil)) (fun a h => p29 a h.1 h.2) (fun _ => noI rfl rfl) _
end Go.Bal
