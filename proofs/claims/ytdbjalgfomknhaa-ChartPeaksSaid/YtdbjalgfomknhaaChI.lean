/- Package chart: stages at a time, from a time to another one, and when one is reached. -/
import Derived.Test.YtdbjalgfomknhaaChH
set_option linter.unusedVariables false
set_option linter.unusedSimpArgs false
namespace Go.Bal
open Go Go.Sym Go.Proofs
def zHul : Hul := ⟨⟨0, 0⟩, false⟩
structure CZI where
 a : CZ
 t : Int
def dCZI : List AVal -> Heap -> Option (CZI × List (Nat × Nat) × List Nat)
 | [x, y, .d t], H => match dChtA x H, dInts y H with
  | some (c, f), some (l, e) => some (⟨⟨c, l⟩, dInt t⟩, [], f ++ e)
  | _, _ => none
 | _, _ => none
def xCZI (x : CZI) : List AVal := [.d (eCht x.a.c), .d (eIntsL x.a.z), .int x.t]
def tmL (a : CZ) : List Span := (timesV (begD a)).1
theorem hul_eta (h : Hul) : Hul.mk h.s h.m = h := rfl
theorem tmL_d (a : CZ) : (timesV (begD a)).1 = tmL a := rfl
theorem tmL_len {a : CZ} (h : readE a = 0) : (tmL a).length = a.c.ms.length := by
 have h3 := (readE_0 h).2.2
 unfold tmL
 unfold timesV at h3 ⊢
 rw [begD_c] at h3 ⊢
 cases hs : stgOk a.c with
 | false => rw [hs] at h3; cases h3
 | true => show (narL _ _).length = _; unfold narL; rw [rng_length, notL_len]
theorem stgL_len (c : Cht) : (stgL c).length = c.ms.length := rng_length _ _
def hul1 (a : CZ) (t : Int) : Nat -> Hul
 | 0 => zHul
 | k + 1 => bif inM t (gD (tmL a) k).lo (gD (tmL a) k).hi then hadM (hul1 a t k) (gD (stgL a.c) k) else hul1 a t k
def parOk (a : CZ) (t : Int) (g : Nat) : Bool := (narL (begD a) (parL (tmL a) ((g : Int) + 1) (wr (t - 1)) (wr (t + 1)))).all leM
def hul2 (a : CZ) (t : Int) : Nat -> Hul
 | 0 => hul1 a t a.c.ms.length
 | g + 1 => bif parOk a t g then hadM (hadM (hul2 a t g) (gD (stgL a.c) g)) (gD (stgL a.c) (g + 1)) else hul2 a t g
def stgH (x : CZI) : Hul := bif inM x.t (-100000000) 100000000 then hul2 x.a x.t (x.a.c.ms.length - 1) else hul1 x.a x.t x.a.c.ms.length
def stageV (x : CZI) : Span × Int := bif readE x.a == 0 then whoM (stgH x) else (⟨0, 0⟩, readE x.a)
def C_Stage : Ctr := { α := CZI, xs := xCZI, val := λ x => .tup [.d (eSpan (stageV x).1), .int (stageV x).2], keep := λ _ => [], pre := λ x => [x.a.c.ms.length < 4611686018427387904 /\ x.a.c.ns.length < 4611686018427387904 /\ x.a.z.length < 4611686018427387904] }
def sgH (x : CZI) (h : Hul) : List (Nat × HCell) := [(201, .live (.box [.int x.t])), (202, .live (.box [.int 0, .int 0])), (203, .live (.box [.bptr 208 0])), (204, .live (.box [.d (eSpans (tmL x.a))])), (205, .live (.box [.d (eSpans (stgL x.a.c))])), (206, .live (hlB h)), (207, .live (.box [.fn (.func n_hadd) [.bptr 206 0] []])), (208, .live (dkB (begD x.a) 209)), (209, .live (dkM (begD x.a)))]
def sg7 (x : CZI) : Shape := { α := Nat, dflt := 0, T := λ k => ⟨[(5, .bptr 201 0), (6, .bptr 202 0), (8, .bptr 203 0), (9, .bptr 204 0), (10, .bptr 205 0), (12, .bptr 206 0), (13, .bptr 207 0), (32, .int x.a.c.ms.length), (33, .int k)], sgH x (hul1 x.a x.t k)⟩, inv := λ k => k <= x.a.c.ms.length, meas := λ k => x.a.c.ms.length - k, first := [(201, 1016), (202, 1032), (203, 2128), (204, 2144), (205, 2160), (206, 5000), (207, 6016), (208, 2032), (209, 2033)] }
def sg1 (x : CZI) (l : Nat) : Shape := { α := Nat, dflt := 0, T := λ g => ⟨[(0, .fn (.yield l) [] []), (1, .bptr 14016 0), (12, .int (wr ((x.a.c.ms.length : Int) - 1))), (13, .int g)], sgH x (hul2 x.a x.t g) ++ [(14016, .live (.box [.bptr 208 0]))]⟩, inv := λ g => g <= x.a.c.ms.length - 1, meas := λ g => 50 - g }
noncomputable def itSg (x : CZI) : IterAnn := { fn := F_gaps1, code := bodyOf F_gaps1, live := [5, 6, 8, 9, 10, 12, 13], ann := { base := λ id => 100000 + 1000 * (id + 1), Γ := Sym.look [], E := [201, 202, 203, 204, 205, 206, 207, 208, 209, 14016], n := 66, inner := λ gs id => if id = 1 then some [sg1 x (gs.getD 0 0)] else none } }
noncomputable def A_Stage (x : CZI) : Ann := { ann 92 [(n_read, C_rdO.spec dCZ), (n_in, s_in), (n_hadd, C_hadd.spec dHuS), (n_gaps, C_gaps.spec dDk1), (n_parted, C_part.spec dDkQ), (n_narrowed, C_nar.spec dDkS), (n_whole, C_who.spec dHu1)] with iter := λ g => if g = n_gaps1 then some (itSg x) else none, loops := λ id => if id = 7 then some [sg7 x] else none }
def A_StageX : Ann := ann 92 [(n_read, C_rdX.spec dCZ)]
def V_Stage (x : CZI) : Prop := fnVC Try.prog (A_Stage x) F_Stage (bodyOf F_Stage) (xCZI x) (heapOf []) (.tup [.d (eSpan (whoM (stgH x)).1), .int (whoM (stgH x)).2]) [] [] []
abbrev z_Stage_0 (x : CZI) : List Mk := rng x.a.c.ms.length λ (i : Nat) => gD x.a.c.ms i
abbrev z_Stage_1 (x : CZI) : Nat := (z_Stage_0 x).length
abbrev z_Stage_2 (x : CZI) (i : Nat) : Mk := gD (z_Stage_0 x) i
abbrev z_Stage_3 (x : CZI) : List Nt := rng x.a.c.ns.length λ (i : Nat) => gD x.a.c.ns i
abbrev z_Stage_4 (x : CZI) : Nat := (z_Stage_3 x).length
abbrev z_Stage_5 (x : CZI) (i : Nat) : Nt := gD (z_Stage_3 x) i
abbrev z_Stage_6 (x : CZI) (i : Nat) : Span := (z_Stage_5 x i).t
abbrev z_Stage_7 (x : CZI) (i : Nat) : Span := (z_Stage_5 x i).s
abbrev z_Stage_8 (x : CZI) : List Int := rng x.a.z.length λ (i : Nat) => gD x.a.z i
abbrev z_Stage_9 (x : CZI) : Nat := (z_Stage_8 x).length
abbrev z_Stage_10 (x : CZI) : Cht := Cht.mk x.a.c.p x.a.c.base x.a.c.scale x.a.c.off (z_Stage_0 x) (z_Stage_3 x)
abbrev z_Stage_11 (x : CZI) : CZ := CZ.mk (z_Stage_10 x) (z_Stage_8 x)
abbrev z_Stage_12 (x : CZI) : Dk := begD (z_Stage_11 x)
abbrev z_Stage_13 (x : CZI) : List Span := (timesV (z_Stage_12 x)).fst
abbrev z_Stage_14 (x : CZI) : Nat := (z_Stage_13 x).length
abbrev z_Stage_15 (a : Nat) : Prop := (↑a : Int) = (0 : Int)
abbrev z_Stage_16 : Prop := Int.ofNat (0 : Nat) = Int.ofNat (0 : Nat)
abbrev z_Stage_17 (x : CZI) (i : Nat) : Span := gD (z_Stage_13 x) i
abbrev z_Stage_18 (x : CZI) : List Span := stgL (z_Stage_10 x)
abbrev z_Stage_19 (i : Nat) (x : CZI) : Prop := i < (stgL x.a.c).length
abbrev z_Stage_20 (x : CZI) (i : Nat) : Span := gD (z_Stage_18 x) i
abbrev z_Stage_21 (x : CZI) : Cht := (z_Stage_12 x).c
abbrev z_Stage_22 (x : CZI) : Span := (z_Stage_21 x).p
abbrev z_Stage_23 (x : CZI) : List Mk := (z_Stage_21 x).ms
abbrev z_Stage_24 (i : Nat) (x : CZI) : Prop := i < (begD x.a).c.ms.length
abbrev z_Stage_25 (x : CZI) (i : Nat) : Int := (gD (begD x.a).c.ms i).pl
abbrev z_Stage_26 (x : CZI) (i : Nat) : Mk := gD (z_Stage_23 x) i
abbrev z_Stage_27 (x : CZI) (i : Nat) : Int := (gD (begD x.a).c.ms i).ht
abbrev z_Stage_28 (x : CZI) : List Nt := (z_Stage_21 x).ns
abbrev z_Stage_29 (i : Nat) (x : CZI) : Prop := i < (begD x.a).c.ns.length
abbrev z_Stage_30 (x : CZI) (i : Nat) : Int := (gD (begD x.a).c.ns i).mi
abbrev z_Stage_31 (x : CZI) (i : Nat) : Nt := gD (z_Stage_28 x) i
abbrev z_Stage_32 (x : CZI) (i : Nat) : Span := (gD (begD x.a).c.ns i).t
abbrev z_Stage_33 (x : CZI) (i : Nat) : Int := (z_Stage_32 x i).lo
abbrev z_Stage_34 (x : CZI) (i : Nat) : Span := (z_Stage_31 x i).t
abbrev z_Stage_35 (x : CZI) (i : Nat) : Int := (z_Stage_32 x i).hi
abbrev z_Stage_36 (x : CZI) (i : Nat) : Span := (gD (begD x.a).c.ns i).s
abbrev z_Stage_37 (x : CZI) (i : Nat) : Int := (z_Stage_36 x i).lo
abbrev z_Stage_38 (x : CZI) (i : Nat) : Span := (z_Stage_31 x i).s
abbrev z_Stage_39 (x : CZI) (i : Nat) : Int := (z_Stage_36 x i).hi
abbrev z_Stage_40 (x : CZI) (n : Int) : Nt := ntOf (z_Stage_28 x) n
abbrev z_Stage_41 (x : CZI) (n : Int) : Span := (z_Stage_40 x n).t
abbrev z_Stage_42 (x : CZI) (n : Int) : Span := (z_Stage_40 x n).s
abbrev z_Stage_43 (a : Nat) : Prop := (0 : Int) <= (↑a : Int)
abbrev z_Stage_44 (a : Nat) (x : CZI) : Prop := z_Stage_43 a /\ (↑a : Int) < (↑(tmL x.a).length : Int)
abbrev z_Stage_45 (a : Nat) (x : CZI) : Prop := z_Stage_43 a /\ (↑a : Int) < (↑(stgL x.a.c).length : Int)
abbrev z_Stage_46 (x : CZI) (a : Nat) : Prop := (gD (stgL x.a.c) a).lo = (gD (stgL x.a.c) a).lo
abbrev z_Stage_47 (x : CZI) (a : Nat) : Prop := (gD (stgL x.a.c) a).hi = (gD (stgL x.a.c) a).hi
abbrev z_Stage_48 (x : CZI) (a : Nat) : Prop := (hul1 x.a x.t a).s.lo = (hul1 x.a x.t a).s.lo
abbrev z_Stage_49 (x : CZI) (a : Nat) : Prop := (hul1 x.a x.t a).s.hi = (hul1 x.a x.t a).s.hi
abbrev z_Stage_50 (x : CZI) (a : Nat) : Prop := (hul1 x.a x.t a).m = (hul1 x.a x.t a).m
abbrev z_Stage_51 (x : CZI) (a : Nat) : Prop := z_Stage_48 x a /\ z_Stage_49 x a /\ z_Stage_50 x a
abbrev z_Stage_52 (x : CZI) : Prop := (↑x.a.c.ms.length : Int) = (↑x.a.c.ms.length : Int)
abbrev z_Stage_53 (a : Nat) : Int := IntKind.i64.wrap ((↑a : Int) + (1 : Int))
abbrev z_Stage_54 (a : Nat) (a1 : Nat) : Prop := (↑a : Int) = z_Stage_53 a1
abbrev z_Stage_55 (x : CZI) : Prop := (tmL x.a).length = (tmL x.a).length
abbrev z_Stage_56 (x : CZI) : Prop := ∀ (i : Nat), i < (tmL x.a).length -> (gD (tmL x.a) i).lo = (gD (tmL x.a) i).lo /\ (gD (tmL x.a) i).hi = (gD (tmL x.a) i).hi
abbrev z_Stage_57 (x : CZI) : Prop := (stgL x.a.c).length = (stgL x.a.c).length
abbrev z_Stage_58 (x : CZI) : Prop := ∀ (i : Nat), z_Stage_19 i x -> z_Stage_46 x i /\ z_Stage_47 x i
abbrev z_Stage_59 (x : CZI) (a : Nat) : Hul := Hul.mk (hul1 x.a x.t a).s (hul1 x.a x.t a).m
abbrev z_Stage_60 (x : CZI) (a : Nat) : Span := (hadM (z_Stage_59 x a) (gD (stgL x.a.c) a)).s
abbrev z_Stage_61 (x : CZI) : Prop := (begD x.a).c.p.lo = (begD x.a).c.p.lo
abbrev z_Stage_62 (x : CZI) : Prop := (begD x.a).c.p.hi = (begD x.a).c.p.hi
abbrev z_Stage_63 (x : CZI) : Prop := (begD x.a).c.base = (begD x.a).c.base
abbrev z_Stage_64 (x : CZI) : Prop := (begD x.a).c.scale = (begD x.a).c.scale
abbrev z_Stage_65 (x : CZI) : Prop := (begD x.a).c.off = (begD x.a).c.off
abbrev z_Stage_66 (x : CZI) : Prop := ∀ (i : Nat), i < (40 : Nat) -> (begD x.a).sp i = (begD x.a).sp i
abbrev z_Stage_67 (x : CZI) : Prop := ∀ (n : Int), (begD x.a).st n = (begD x.a).st n
abbrev z_Stage_68 (x : CZI) : Prop := z_Stage_61 x /\ z_Stage_62 x /\ z_Stage_63 x /\ z_Stage_64 x /\ z_Stage_65 x /\ (begD x.a).c.ms.length = (begD x.a).c.ms.length /\ (∀ (i : Nat), z_Stage_24 i x -> z_Stage_25 x i =
 z_Stage_25 x i /\ z_Stage_27 x i = z_Stage_27 x i) /\ (begD x.a).c.ns.length = (begD x.a).c.ns.length /\ (∀ (i : Nat), z_Stage_29 i x -> z_Stage_30 x i = z_Stage_30 x i /\ z_Stage_33 x i = z_Stage_33 x i /\ z_Stage_35 x i =
 z_Stage_35 x i /\ z_Stage_37 x i = z_Stage_37 x i /\ z_Stage_39 x i = z_Stage_39 x i) /\ z_Stage_66 x /\ zNt = zNt /\ (∀ (n : Int), hasN (begD x.a).c.ns n = hasN (begD x.a).c.ns n) /\ z_Stage_67 x /\ ∀ (n : Int), (ntOf (begD
 x.a).c.ns n).mi = (ntOf (begD x.a).c.ns n).mi /\ (ntOf (begD x.a).c.ns n).t.lo = (ntOf (begD x.a).c.ns n).t.lo /\ (ntOf (begD x.a).c.ns n).t.hi = (ntOf (begD x.a).c.ns n).t.hi /\ (ntOf (begD x.a).c.ns n).s.lo = (ntOf (begD
 x.a).c.ns n).s.lo /\ (ntOf (begD x.a).c.ns n).s.hi = (ntOf (begD x.a).c.ns n).s.hi
abbrev z_Stage_69 (x : CZI) (a : Nat) : Nat := x.a.c.ms.length - a
abbrev z_Stage_70 (a : Nat) (x : CZI) (a1 : Nat) : Prop := a.le x.a.c.ms.length /\ z_Stage_69 x a < z_Stage_69 x a1
abbrev z_Stage_71 (x : CZI) : List Mk := rng (begD x.a).c.ms.length λ (i : Nat) => gD (begD x.a).c.ms i
abbrev z_Stage_72 (x : CZI) : Nat := (z_Stage_71 x).length
abbrev z_Stage_73 (x : CZI) : Prop := z_Stage_72 x = (begD x.a).c.ms.length
abbrev z_Stage_74 (x : CZI) (i : Nat) : Mk := gD (z_Stage_71 x) i
abbrev z_Stage_75 (x : CZI) (i : Nat) : Int := (z_Stage_74 x i).pl
abbrev z_Stage_76 (x : CZI) (i : Nat) : Int := (z_Stage_74 x i).ht
abbrev z_Stage_77 (x : CZI) : Prop := ∀ (i : Nat), i < z_Stage_72 x -> z_Stage_75 x i = z_Stage_25 x i /\ z_Stage_76 x i = z_Stage_27 x i
abbrev z_Stage_78 (x : CZI) : List Nt := rng (begD x.a).c.ns.length λ (i : Nat) => gD (begD x.a).c.ns i
abbrev z_Stage_79 (x : CZI) : Nat := (z_Stage_78 x).length
abbrev z_Stage_80 (x : CZI) : Prop := z_Stage_79 x = (begD x.a).c.ns.length
abbrev z_Stage_81 (x : CZI) (i : Nat) : Nt := gD (z_Stage_78 x) i
abbrev z_Stage_82 (x : CZI) (i : Nat) : Int := (z_Stage_81 x i).mi
abbrev z_Stage_83 (x : CZI) (i : Nat) : Span := (z_Stage_81 x i).t
abbrev z_Stage_84 (x : CZI) (i : Nat) : Int := (z_Stage_83 x i).lo
abbrev z_Stage_85 (x : CZI) (i : Nat) : Int := (z_Stage_83 x i).hi
abbrev z_Stage_86 (x : CZI) (i : Nat) : Span := (z_Stage_81 x i).s
abbrev z_Stage_87 (x : CZI) (i : Nat) : Int := (z_Stage_86 x i).lo
abbrev z_Stage_88 (x : CZI) (i : Nat) : Int := (z_Stage_86 x i).hi
abbrev z_Stage_89 (x : CZI) : Prop := ∀ (i : Nat), i < z_Stage_79 x -> z_Stage_82 x i = z_Stage_30 x i /\ z_Stage_84 x i = z_Stage_33 x i /\ z_Stage_85 x i = z_Stage_35 x i /\ z_Stage_87 x i = z_Stage_37 x i /\ z_Stage_88 x i
 = z_Stage_39 x i
abbrev z_Stage_90 (x : CZI) (n : Int) : Bool := hasN (z_Stage_78 x) n
abbrev z_Stage_91 (x : CZI) : Prop := ∀ (n : Int), z_Stage_90 x n = hasN (begD x.a).c.ns n
abbrev z_Stage_92 (x : CZI) (n : Int) : Nt := ntOf (z_Stage_78 x) n
abbrev z_Stage_93 (x : CZI) (n : Int) : Int := (z_Stage_92 x n).mi
abbrev z_Stage_94 (x : CZI) (n : Int) : Span := (z_Stage_92 x n).t
abbrev z_Stage_95 (x : CZI) (n : Int) : Int := (z_Stage_94 x n).lo
abbrev z_Stage_96 (x : CZI) (n : Int) : Int := (z_Stage_94 x n).hi
abbrev z_Stage_97 (x : CZI) (n : Int) : Span := (z_Stage_92 x n).s
abbrev z_Stage_98 (x : CZI) (n : Int) : Int := (z_Stage_97 x n).lo
abbrev z_Stage_99 (x : CZI) (n : Int) : Int := (z_Stage_97 x n).hi
abbrev z_Stage_100 (x : CZI) : Prop := ∀ (n : Int), z_Stage_93 x n = (ntOf (begD x.a).c.ns n).mi /\ z_Stage_95 x n = (ntOf (begD x.a).c.ns n).t.lo /\ z_Stage_96 x n = (ntOf (begD x.a).c.ns n).t.hi /\ z_Stage_98 x n = (ntOf
 (begD x.a).c.ns n).s.lo /\ z_Stage_99 x n = (ntOf (begD x.a).c.ns n).s.hi
abbrev z_Stage_101 (x : CZI) : Prop := (begD x.a).c.ms.length = z_Stage_72 x
abbrev z_Stage_102 (x : CZI) : Prop := ∀ (i : Nat), z_Stage_24 i x -> z_Stage_25 x i = z_Stage_75 x i /\ z_Stage_27 x i = z_Stage_76 x i
abbrev z_Stage_103 (x : CZI) : Prop := (begD x.a).c.ns.length = z_Stage_79 x
abbrev z_Stage_104 (x : CZI) : Prop := ∀ (i : Nat), z_Stage_29 i x -> z_Stage_30 x i = z_Stage_82 x i /\ z_Stage_33 x i = z_Stage_84 x i /\ z_Stage_35 x i = z_Stage_85 x i /\ z_Stage_37 x i = z_Stage_87 x i /\ z_Stage_39 x i
 = z_Stage_88 x i
abbrev z_Stage_105 (x : CZI) : Prop := ∀ (n : Int), hasN (begD x.a).c.ns n = z_Stage_90 x n
abbrev z_Stage_106 (x : CZI) : Prop := ∀ (n : Int), (ntOf (begD x.a).c.ns n).mi = z_Stage_93 x n /\ (ntOf (begD x.a).c.ns n).t.lo = z_Stage_95 x n /\ (ntOf (begD x.a).c.ns n).t.hi = z_Stage_96 x n /\ (ntOf (begD x.a).c.ns
 n).s.lo = z_Stage_98 x n /\ (ntOf (begD x.a).c.ns n).s.hi = z_Stage_99 x n
abbrev z_Stage_107 (x : CZI) : Int := wr ((↑x.a.c.ms.length : Int) - (1 : Int))
abbrev z_Stage_108 (a : Nat) (x : CZI) : Prop := a.le (x.a.c.ms.length - (1 : Nat))
abbrev z_Stage_109 (a : Nat) : Prop := (0 : Int) <= z_Stage_53 a
abbrev z_Stage_110 (x : CZI) : List Span := rng (tmL x.a).length λ (i : Nat) => gD (tmL x.a) i
abbrev z_Stage_111 (x : CZI) : Nat := (z_Stage_110 x).length
abbrev z_Stage_112 (x : CZI) (i : Nat) : Span := gD (z_Stage_110 x) i
abbrev z_Stage_113 (x : CZI) : Int := IntKind.i64.wrap (x.t - (1 : Int))
abbrev z_Stage_114 (x : CZI) : Int := IntKind.i64.wrap (x.t + (1 : Int))
abbrev z_Stage_115 (x : CZI) (a : Nat) : List Span := parL (z_Stage_110 x) (z_Stage_53 a) (z_Stage_113 x) (z_Stage_114 x)
abbrev z_Stage_116 (x : CZI) (a : Nat) : Nat := (z_Stage_115 x a).length
abbrev z_Stage_117 (x : CZI) (a : Nat) (i : Nat) : Span := gD (z_Stage_115 x a) i
abbrev z_Stage_118 (x : CZI) (a : Nat) : List Span := rng (z_Stage_116 x a) λ (i : Nat) => z_Stage_117 x a i
abbrev z_Stage_119 (x : CZI) (a : Nat) : Nat := (z_Stage_118 x a).length
abbrev z_Stage_120 (x : CZI) (a : Nat) (i : Nat) : Span := gD (z_Stage_118 x a) i
abbrev z_Stage_121 (x : CZI) (a : Nat) : Prop := (hul2 x.a x.t a).s.lo = (hul2 x.a x.t a).s.lo
abbrev z_Stage_122 (x : CZI) (a : Nat) : Prop := (hul2 x.a x.t a).s.hi = (hul2 x.a x.t a).s.hi
abbrev z_Stage_123 (x : CZI) (a : Nat) : Prop := (hul2 x.a x.t a).m = (hul2 x.a x.t a).m
abbrev z_Stage_124 (x : CZI) (a : Nat) : Prop := z_Stage_121 x a /\ z_Stage_122 x a /\ z_Stage_123 x a
abbrev z_Stage_125 (x : CZI) (a : Nat) : Span := gD (stgL x.a.c) (z_Stage_53 a).toNat
abbrev z_Stage_126 (x : CZI) (a : Nat) : Int := (z_Stage_125 x a).lo
abbrev z_Stage_127 (x : CZI) (a : Nat) : Int := (z_Stage_125 x a).hi
abbrev z_Stage_128 (x : CZI) (a : Nat) : Hul := Hul.mk (hul2 x.a x.t a).s (hul2 x.a x.t a).m
abbrev z_Stage_129 (x : CZI) (a : Nat) : Hul := hadM (z_Stage_128 x a) (gD (stgL x.a.c) a)
abbrev z_Stage_130 (x : CZI) (a : Nat) : Span := (z_Stage_129 x a).s
abbrev z_Stage_131 (x : CZI) (a : Nat) : Int := (z_Stage_130 x a).lo
abbrev z_Stage_132 (x : CZI) (a : Nat) : Int := (z_Stage_130 x a).hi
abbrev z_Stage_133 (x : CZI) : Prop := z_Stage_107 x = z_Stage_107 x
abbrev z_Stage_134 (x : CZI) (a : Nat) : Span := (hadM (Hul.mk (z_Stage_130 x a) (z_Stage_129 x a).m) (z_Stage_125 x a)).s
abbrev z_Stage_135 (a : Nat) : Nat := (50 : Nat) - a
abbrev z_Stage_136 (a : Nat) (x : CZI) (a1 : Nat) : Prop := z_Stage_108 a x /\ z_Stage_135 a < z_Stage_135 a1
abbrev z_Stage_137 (l : Nat) (x : CZI) (a : Nat) : Prop := l = l /\ (z_Stage_111 x = (tmL x.a).length /\ (∀ (i : Nat), i < z_Stage_111 x -> (z_Stage_112 x i).lo = (gD (tmL x.a) i).lo /\ (z_Stage_112 x i).hi = (gD (tmL x.a)
 i).hi) /\ z_Stage_53 a = z_Stage_53 a /\ z_Stage_113 x = z_Stage_113 x /\ z_Stage_114 x = z_Stage_114 x /\ z_Stage_61 x /\ z_Stage_62 x /\ z_Stage_63 x /\ z_Stage_64 x /\ z_Stage_65 x /\ z_Stage_73 x /\ z_Stage_77 x /\ z_Stage_80 x
 /\ z_Stage_89 x /\ z_Stage_66 x /\ zNt = zNt /\ z_Stage_91 x /\ z_Stage_67 x /\ z_Stage_100 x /\ z_Stage_61 x /\ z_Stage_62 x /\ z_Stage_63 x /\ z_Stage_64 x /\ z_Stage_65 x /\ z_Stage_101 x /\ z_Stage_102 x /\ z_Stage_103 x /\
 z_Stage_104 x /\ z_Stage_66 x /\ zNt = zNt /\ z_Stage_105 x /\ z_Stage_67 x /\ z_Stage_106 x /\ (((1 : Nat) <= z_Stage_111 x /\ z_Stage_111 x <= (40 : Nat)) /\ z_Stage_109 a /\ z_Stage_53 a <= (↑(z_Stage_111 x) : Int)) /\ z_Stage_119
 x a = z_Stage_116 x a /\ (∀ (i : Nat), i < z_Stage_119 x a -> (z_Stage_120 x a i).lo = (z_Stage_117 x a i).lo /\ (z_Stage_120 x a i).hi = (z_Stage_117 x a i).hi) /\ z_Stage_61 x /\ z_Stage_62 x /\ z_Stage_63 x /\ z_Stage_64 x /\
 z_Stage_65 x /\ z_Stage_73 x /\ z_Stage_77 x /\ z_Stage_80 x /\ z_Stage_89 x /\ z_Stage_66 x /\ zNt = zNt /\ z_Stage_91 x /\ z_Stage_67 x /\ z_Stage_100 x /\ z_Stage_61 x /\ z_Stage_62 x /\ z_Stage_63 x /\ z_Stage_64 x /\ z_Stage_65 x
 /\ z_Stage_101 x /\ z_Stage_102 x /\ z_Stage_103 x /\ z_Stage_104 x /\ z_Stage_66 x /\ zNt = zNt /\ z_Stage_105 x /\ z_Stage_67 x /\ z_Stage_106 x /\ z_Stage_119 x a = z_Stage_72 x /\ (1 : Nat) <= z_Stage_72 x /\ z_Stage_72 x <= (40 :
 Nat)) /\ bif (narL (Dk.mk (Cht.mk (begD x.a).c.p (begD x.a).c.base (begD x.a).c.scale (begD x.a).c.off (z_Stage_71 x) (z_Stage_78 x)) (begD x.a).st (begD x.a).sp) (z_Stage_118 x a)).all leM then (z_Stage_45 a x /\
 z_Stage_46 x a /\ z_Stage_47 x a /\ z_Stage_124 x a) /\ ((z_Stage_109 a /\ z_Stage_53 a < (↑(stgL x.a.c).length : Int)) /\ z_Stage_126 x a = z_Stage_126 x a /\ z_Stage_127 x a = z_Stage_127 x a /\ z_Stage_131 x a = z_Stage_131
 x a /\ z_Stage_132 x a = z_Stage_132 x a /\ true = true) /\ ∃ (a_1 : Nat), (Fn.yield l = Fn.yield l /\ z_Stage_133 x /\ z_Stage_54 a_1 a /\ x.t = x.t /\ z_Stage_16 /\ z_Stage_16 /\ z_Stage_55 x /\ z_Stage_56 x /\ z_Stage_57 x /\
 z_Stage_58 x /\ (hul2 x.a x.t a_1).s.lo = (z_Stage_134 x a).lo /\ (hul2 x.a x.t a_1).s.hi = (z_Stage_134 x a).hi /\ (hul2 x.a x.t a_1).m = true /\ z_Stage_68 x) /\ z_Stage_136 a_1 x a else ∃ (a_1 : Nat), (Fn.yield l =
 Fn.yield l /\ z_Stage_133 x /\ z_Stage_54 a_1 a /\ x.t = x.t /\ z_Stage_16 /\ z_Stage_16 /\ z_Stage_55 x /\ z_Stage_56 x /\ z_Stage_57 x /\ z_Stage_58 x /\ (hul2 x.a x.t a_1).s.lo = (hul2 x.a x.t a).s.lo /\ (hul2 x.a x.t a_1).s.hi
 = (hul2 x.a x.t a).s.hi /\ (hul2 x.a x.t a_1).m = (hul2 x.a x.t a).m /\ z_Stage_68 x) /\ z_Stage_136 a_1 x a
abbrev z_Stage_138 (x : CZI) (a : Nat) : Span × Int := whoM (z_Stage_128 x a)
abbrev z_Stage_139 (x : CZI) (a : Nat) : Span := (z_Stage_138 x a).fst
abbrev z_Stage_140 (x : CZI) (a : Nat) : Span × Int := whoM (z_Stage_59 x a)
abbrev z_Stage_141 (x : CZI) (a : Nat) : Span := (z_Stage_140 x a).fst
theorem vc_Stage (x : CZI) : (V_Stage x) = ((x.a.c.p.lo = x.a.c.p.lo /\ x.a.c.p.hi = x.a.c.p.hi /\ x.a.c.base = x.a.c.base /\ x.a.c.scale = x.a.c.scale /\ x.a.c.off = x.a.c.off /\ z_Stage_1 x = x.a.c.ms.length /\ (∀ (i : Nat),
 i < z_Stage_1 x -> (z_Stage_2 x i).pl = (gD x.a.c.ms i).pl /\ (z_Stage_2 x i).ht = (gD x.a.c.ms i).ht) /\ z_Stage_4 x = x.a.c.ns.length /\ (∀ (i : Nat), i < z_Stage_4 x -> (z_Stage_5 x i).mi = (gD x.a.c.ns i).mi /\ (z_Stage_6
 x i).lo = (gD x.a.c.ns i).t.lo /\ (z_Stage_6 x i).hi = (gD x.a.c.ns i).t.hi /\ (z_Stage_7 x i).lo = (gD x.a.c.ns i).s.lo /\ (z_Stage_7 x i).hi = (gD x.a.c.ns i).s.hi) /\ z_Stage_9 x = x.a.z.length /\ (∀ (i : Nat), i <
 z_Stage_9 x -> gD (z_Stage_8 x) i = gD x.a.z i) /\ (z_Stage_1 x < (4611686018427387904 : Nat) /\ z_Stage_4 x < (4611686018427387904 : Nat) /\ z_Stage_9 x < (4611686018427387904 : Nat)) /\ readE (z_Stage_11 x) = (0 : Int)) /\
 (∃ (a : Nat), ((↑x.a.c.ms.length : Int) = (↑(z_Stage_14 x) : Int) /\ z_Stage_15 a /\ x.t = x.t /\ z_Stage_16 /\ z_Stage_16 /\ (tmL x.a).length = z_Stage_14 x /\ (∀ (i : Nat), i < (tmL x.a).length -> (gD (tmL x.a) i).lo =
 (z_Stage_17 x i).lo /\ (gD (tmL x.a) i).hi = (z_Stage_17 x i).hi) /\ (stgL x.a.c).length = (z_Stage_18 x).length /\ (∀ (i : Nat), z_Stage_19 i x -> (gD (stgL x.a.c) i).lo = (z_Stage_20 x i).lo /\ (gD (stgL x.a.c) i).hi =
 (z_Stage_20 x i).hi) /\ (hul1 x.a x.t a).s.lo = (0 : Int) /\ (hul1 x.a x.t a).s.hi = (0 : Int) /\ (hul1 x.a x.t a).m = false /\ (begD x.a).c.p.lo = (z_Stage_22 x).lo /\ (begD x.a).c.p.hi = (z_Stage_22 x).hi /\ (begD
 x.a).c.base = (z_Stage_21 x).base /\ (begD x.a).c.scale = (z_Stage_21 x).scale /\ (begD x.a).c.off = (z_Stage_21 x).off /\ (begD x.a).c.ms.length = (z_Stage_23 x).length /\ (∀ (i : Nat), z_Stage_24 i x -> z_Stage_25 x i =
 (z_Stage_26 x i).pl /\ z_Stage_27 x i = (z_Stage_26 x i).ht) /\ (begD x.a).c.ns.length = (z_Stage_28 x).length /\ (∀ (i : Nat), z_Stage_29 i x -> z_Stage_30 x i = (z_Stage_31 x i).mi /\ z_Stage_33 x i = (z_Stage_34 x i).lo /\
 z_Stage_35 x i = (z_Stage_34 x i).hi /\ z_Stage_37 x i = (z_Stage_38 x i).lo /\ z_Stage_39 x i = (z_Stage_38 x i).hi) /\ (∀ (i : Nat), i < (40 : Nat) -> (begD x.a).sp i = (z_Stage_12 x).sp i) /\ zNt = zNt /\ (∀ (n : Int), hasN
 (begD x.a).c.ns n = hasN (z_Stage_28 x) n) /\ (∀ (n : Int), (begD x.a).st n = (z_Stage_12 x).st n) /\ ∀ (n : Int), (ntOf (begD x.a).c.ns n).mi = (z_Stage_40 x n).mi /\ (ntOf (begD x.a).c.ns n).t.lo = (z_Stage_41 x n).lo /\
 (ntOf (begD x.a).c.ns n).t.hi = (z_Stage_41 x n).hi /\ (ntOf (begD x.a).c.ns n).s.lo = (z_Stage_42 x n).lo /\ (ntOf (begD x.a).c.ns n).s.hi = (z_Stage_42 x n).hi) /\ a.le x.a.c.ms.length) /\ ∀ (a : Nat), a.le x.a.c.ms.length
 -> bif decide ((↑a : Int) < (↑x.a.c.ms.length : Int)) then (z_Stage_44 a x /\ z_Stage_44 a x) /\ bif inM x.t (gD (tmL x.a) a).lo (gD (tmL x.a) a).hi then (z_Stage_45 a x /\ z_Stage_46 x a /\ z_Stage_47 x a /\ z_Stage_51 x a) /\
 ∃ (a_2 : Nat), (z_Stage_52 x /\ z_Stage_54 a_2 a /\ x.t = x.t /\ z_Stage_16 /\ z_Stage_16 /\ z_Stage_55 x /\ z_Stage_56 x /\ z_Stage_57 x /\ z_Stage_58 x /\ (hul1 x.a x.t a_2).s.lo = (z_Stage_60 x a).lo /\ (hul1 x.a x.t a_2).s.hi
 = (z_Stage_60 x a).hi /\ (hul1 x.a x.t a_2).m = true /\ z_Stage_68 x) /\ z_Stage_70 a_2 x a else ∃ (a_2 : Nat), (z_Stage_52 x /\ z_Stage_54 a_2 a /\ x.t = x.t /\ z_Stage_16 /\ z_Stage_16 /\ z_Stage_55 x /\ z_Stage_56 x /\
 z_Stage_57 x /\ z_Stage_58 x /\ (hul1 x.a x.t a_2).s.lo = (hul1 x.a x.t a).s.lo /\ (hul1 x.a x.t a_2).s.hi = (hul1 x.a x.t a).s.hi /\ (hul1 x.a x.t a_2).m = (hul1 x.a x.t a).m /\ z_Stage_68 x) /\ z_Stage_70 a_2 x a else bif
 inM x.t (-100000000 : Int) (100000000 : Int) then (z_Stage_61 x /\ z_Stage_62 x /\ z_Stage_63 x /\ z_Stage_64 x /\ z_Stage_65 x /\ z_Stage_73 x /\ z_Stage_77 x /\ z_Stage_80 x /\ z_Stage_89 x /\ z_Stage_66 x /\ zNt = zNt /\
 z_Stage_91 x /\ z_Stage_67 x /\ z_Stage_100 x /\ z_Stage_61 x /\ z_Stage_62 x /\ z_Stage_63 x /\ z_Stage_64 x /\ z_Stage_65 x /\ z_Stage_101 x /\ z_Stage_102 x /\ z_Stage_103 x /\ z_Stage_104 x /\ z_Stage_66 x /\ zNt = zNt /\
 z_Stage_105 x /\ z_Stage_67 x /\ z_Stage_106 x) /\ ∀ (l : Nat), (∃ (a_2 : Nat), (Fn.yield l = Fn.yield l /\ z_Stage_107 x = IntKind.i64.wrap ((↑(begD x.a).c.ms.length : Int) - (1 : Int)) /\ z_Stage_15 a_2 /\ x.t = x.t /\
 z_Stage_16 /\ z_Stage_16 /\ z_Stage_55 x /\ z_Stage_56 x /\ z_Stage_57 x /\ z_Stage_58 x /\ (hul2 x.a x.t a_2).s.lo = (hul1 x.a x.t a).s.lo /\ (hul2 x.a x.t a_2).s.hi = (hul1 x.a x.t a).s.hi /\ (hul2 x.a x.t a_2).m = (hul1 x.a
 x.t a).m /\ z_Stage_68 x) /\ z_Stage_108 a_2 x) /\ ∀ (a : Nat), z_Stage_108 a x -> bif decide ((↑a : Int) < z_Stage_107 x) then ((z_Stage_109 a /\ z_Stage_53 a < (↑(begD x.a).c.ms.length : Int)) /\ z_Stage_43 a /\ (↑a : Int) <
 (↑(begD x.a).c.ms.length : Int)) /\ (z_Stage_43 a /\ (↑a : Int) < (↑(40 : Nat) : Int)) /\ a.succ.le (40 : Nat) /\ bif (begD x.a).sp a then z_Stage_137 l x a else z_Stage_137 l x a else (z_Stage_121 x a /\ z_Stage_122 x a /\
 z_Stage_123 x a /\ z_Stage_124 x a) /\ (whoM (stgH x)).fst.lo = (z_Stage_139 x a).lo /\ (whoM (stgH x)).fst.hi = (z_Stage_139 x a).hi /\ (whoM (stgH x)).snd = (z_Stage_138 x a).snd else (z_Stage_48 x a /\ z_Stage_49 x a /\
 z_Stage_50 x a /\ z_Stage_51 x a) /\ (whoM (stgH x)).fst.lo = (z_Stage_141 x a).lo /\ (whoM (stgH x)).fst.hi = (z_Stage_141 x a).hi /\ (whoM (stgH x)).snd = (z_Stage_140 x a).snd) := by kernel_rfl
def V_StageX (x : CZI) : Prop := fnVC Try.prog A_StageX F_Stage (bodyOf F_Stage) (xCZI x) (heapOf []) (.tup [.d (eSpan zSp), .int (readE x.a)]) [] [] []
theorem vc_StageX (x : CZI) : (V_StageX x) = ((x.a.c.p.lo = x.a.c.p.lo /\ x.a.c.p.hi = x.a.c.p.hi /\ x.a.c.base = x.a.c.base /\ x.a.c.scale = x.a.c.scale /\ x.a.c.off = x.a.c.off /\ (rng x.a.c.ms.length λ (i : Nat) => gD
 x.a.c.ms i).length = x.a.c.ms.length /\ (∀ (i : Nat), i < (rng x.a.c.ms.length λ (i : Nat) => gD x.a.c.ms i).length -> (gD (rng x.a.c.ms.length λ (i : Nat) => gD x.a.c.ms i) i).pl = (gD x.a.c.ms i).pl /\ (gD (rng
 x.a.c.ms.length λ (i : Nat) => gD x.a.c.ms i) i).ht = (gD x.a.c.ms i).ht) /\ (rng x.a.c.ns.length λ (i : Nat) => gD x.a.c.ns i).length = x.a.c.ns.length /\ (∀ (i : Nat), i < (rng x.a.c.ns.length λ (i : Nat) => gD
 x.a.c.ns i).length -> (gD (rng x.a.c.ns.length λ (i : Nat) => gD x.a.c.ns i) i).mi = (gD x.a.c.ns i).mi /\ (gD (rng x.a.c.ns.length λ (i : Nat) => gD x.a.c.ns i) i).t.lo = (gD x.a.c.ns i).t.lo /\ (gD (rng
 x.a.c.ns.length λ (i : Nat) => gD x.a.c.ns i) i).t.hi = (gD x.a.c.ns i).t.hi /\ (gD (rng x.a.c.ns.length λ (i : Nat) => gD x.a.c.ns i) i).s.lo = (gD x.a.c.ns i).s.lo /\ (gD (rng x.a.c.ns.length λ (i : Nat) => gD
 x.a.c.ns i) i).s.hi = (gD x.a.c.ns i).s.hi) /\ (rng x.a.z.length λ (i : Nat) => gD x.a.z i).length = x.a.z.length /\ (∀ (i : Nat), i < (rng x.a.z.length λ (i : Nat) => gD x.a.z i).length -> gD (rng x.a.z.length λ (i :
 Nat) => gD x.a.z i) i = gD x.a.z i) /\ ((rng x.a.c.ms.length λ (i : Nat) => gD x.a.c.ms i).length < (4611686018427387904 : Nat) /\ (rng x.a.c.ns.length λ (i : Nat) => gD x.a.c.ns i).length < (4611686018427387904 : Nat)
 /\ (rng x.a.z.length λ (i : Nat) => gD x.a.z i).length < (4611686018427387904 : Nat)) /\ readE (CZ.mk (Cht.mk x.a.c.p x.a.c.base x.a.c.scale x.a.c.off (rng x.a.c.ms.length λ (i : Nat) => gD x.a.c.ms i) (rng
 x.a.c.ns.length λ (i : Nat) => gD x.a.c.ns i)) (rng x.a.z.length λ (i : Nat) => gD x.a.z i)) ≠ (0 : Int)) /\ bif readE (CZ.mk (Cht.mk x.a.c.p x.a.c.base x.a.c.scale x.a.c.off (rng x.a.c.ms.length λ (i : Nat) => gD
 x.a.c.ms i) (rng x.a.c.ns.length λ (i : Nat) => gD x.a.c.ns i)) (rng x.a.z.length λ (i : Nat) => gD x.a.z i)) != (0 : Int) then Int.ofNat (0 : Nat) = Int.ofNat (0 : Nat) /\ Int.ofNat (0 : Nat) = Int.ofNat (0 : Nat) /\
 readE x.a = readE (CZ.mk (Cht.mk x.a.c.p x.a.c.base x.a.c.scale x.a.c.off (rng x.a.c.ms.length λ (i : Nat) => gD x.a.c.ms i) (rng x.a.c.ns.length λ (i : Nat) => gD x.a.c.ns i)) (rng x.a.z.length λ (i : Nat) => gD
 x.a.z i)) else False) := by kernel_rfl
theorem p_Stage (x : CZI) (h1 : x.a.c.ms.length < 4611686018427387904 /\ x.a.c.ns.length < 4611686018427387904 /\ x.a.z.length < 4611686018427387904) (c0 : readE x.a = 0) : V_Stage x := by
 have tl := tmL_len c0
 have sl := stgL_len x.a.c
 have hl := headC_len (readE_0 c0).1
 obtain ⟨_, ⟨n1, n2⟩, _⟩ := hl
 have w1 : wr ((x.a.c.ms.length : Int) - 1) = ((x.a.c.ms.length - 1 : Nat) : Int) := by unfold wr; rw [w64 (by omega) (by omega)]; omega
 have w2 : IntKind.i64.wrap ((x.a.c.ms.length : Int) - 1) = ((x.a.c.ms.length - 1 : Nat) : Int) := w1
 have po : ∀ g : Nat, (narL (begD x.a) (parL (tmL x.a) ((g : Int) + 1) (IntKind.i64.wrap (x.t - 1)) (IntKind.i64.wrap (x.t + 1)))).all leM = parOk x.a x.t g := λ _ => rfl
 rw [vc_Stage]; delta z_Stage_0 z_Stage_1 z_Stage_2 z_Stage_3 z_Stage_4 z_Stage_5 z_Stage_6 z_Stage_7 z_Stage_8 z_Stage_9 z_Stage_10 z_Stage_11 z_Stage_12 z_Stage_13 z_Stage_14 z_Stage_15 z_Stage_16 z_Stage_17 z_Stage_18 z_Stage_19 z_Stage_20 z_Stage_21 z_Stage_22 z_Stage_23 z_Stage_24 z_Stage_25 z_Stage_26 z_Stage_27 z_Stage_28 z_Stage_29 z_Stage_30 z_Stage_31 z_Stage_32 z_Stage_33 z_Stage_34 z_Stage_35 z_Stage_36 z_Stage_37 z_Stage_38 z_Stage_39 z_Stage_40 z_Stage_41 z_Stage_42 z_Stage_43 z_Stage_44 z_Stage_45 z_Stage_46 z_Stage_47 z_Stage_48 z_Stage_49 z_Stage_50 z_Stage_51 z_Stage_52 z_Stage_53 z_Stage_54 z_Stage_55 z_Stage_56 z_Stage_57 z_Stage_58 z_Stage_59 z_Stage_60 z_Stage_61 z_Stage_62 z_Stage_63 z_Stage_64 z_Stage_65 z_Stage_66 z_Stage_67 z_Stage_68 z_Stage_69 z_Stage_70 z_Stage_71 z_Stage_72 z_Stage_73 z_Stage_74 z_Stage_75 z_Stage_76 z_Stage_77 z_Stage_78 z_Stage_79 z_Stage_80 z_Stage_81 z_Stage_82 z_Stage_83 z_Stage_84 z_Stage_85 z_Stage_86 z_Stage_87 z_Stage_88 z_Stage_89 z_Stage_90 z_Stage_91 z_Stage_92 z_Stage_93 z_Stage_94 z_Stage_95 z_Stage_96 z_Stage_97 z_Stage_98 z_Stage_99 z_Stage_100 z_Stage_101 z_Stage_102 z_Stage_103 z_Stage_104 z_Stage_105 z_Stage_106 z_Stage_107 z_Stage_108 z_Stage_109 z_Stage_110 z_Stage_111 z_Stage_112 z_Stage_113 z_Stage_114 z_Stage_115 z_Stage_116 z_Stage_117 z_Stage_118 z_Stage_119 z_Stage_120 z_Stage_121 z_Stage_122 z_Stage_123 z_Stage_124 z_Stage_125 z_Stage_126 z_Stage_127 z_Stage_128 z_Stage_129 z_Stage_130 z_Stage_131 z_Stage_132 z_Stage_133 z_Stage_134 z_Stage_135 z_Stage_136 z_Stage_137 z_Stage_138 z_Stage_139 z_Stage_140 z_Stage_141; simp only [condP, eq_self, implies_true, and_self, true_and, and_true, true_implies, forall_const, decide_eq_true_eq, decide_eq_false_iff_not, Int.toNat_natCast, dSpan_eSpan, dInt_eInt, dMk_e, dNt_e, dPr_e, Nat.zero_add, Int.zero_sub, Nat.le_eq, Nat.succ_eq_add_one, Nat.add_one_le_iff, Bool.not_eq_true', Bool.not_eq_false', rng_length, dSpan_mk, rng_getD, cht_eta, dk_eta, begD_c, cz_eta, begD_eta, hul_eta, tmL_d]; simp only [tl, sl, w1, w2, parL_len]
 have e1 : ∀ k, inM x.t (gD (tmL x.a) k).lo (gD (tmL x.a) k).hi = true -> hul1 x.a x.t (k + 1) = hadM (hul1 x.a x.t k) (gD (stgL x.a.c) k) := λ k h => by
  show (bif inM x.t (gD (tmL x.a) k).lo (gD (tmL x.a) k).hi then _ else _) = _; rw [h]; rfl
 have e0 : ∀ k, inM x.t (gD (tmL x.a) k).lo (gD (tmL x.a) k).hi = false -> hul1 x.a x.t (k + 1) = hul1 x.a x.t k := λ k h => by
  show (bif inM x.t (gD (tmL x.a) k).lo (gD (tmL x.a) k).hi then _ else _) = _; rw [h]; rfl
 have f1 : ∀ g, parOk x.a x.t g = true -> hul2 x.a x.t (g + 1) = hadM (hadM (hul2 x.a x.t g) (gD (stgL x.a.c) g)) (gD (stgL x.a.c) (g + 1)) := λ g h => by
  show (bif parOk x.a x.t g then _ else _) = _; rw [h]; rfl
 have f0 : ∀ g, parOk x.a x.t g = false -> hul2 x.a x.t (g + 1) = hul2 x.a x.t g := λ g h => by
  show (bif parOk x.a x.t g then _ else _) = _; rw [h]; rfl
 refine ⟨⟨h1, c0⟩, ⟨0, ⟨trivial, rfl, rfl, rfl, rfl⟩, Nat.zero_le _⟩, λ k hk => ⟨λ hlt => ⟨by omega, λ hin => ⟨by omega, k + 1, ⟨(wsucc (by omega)).symm, ?_, ?_, ?_⟩, by omega, by omega⟩, λ hin => ⟨k + 1, ⟨(wsucc (by omega)).symm, ?_, ?_, ?_⟩, by omega, by omega⟩⟩, λ hge => ⟨λ ht => ⟨⟨0, ⟨trivial, rfl, ?_, ?_, ?_⟩, Nat.zero_le _⟩, λ g hg => ⟨λ hlt => ?_, λ hgg => ?_⟩⟩, λ ht => ?_⟩⟩⟩
 ·rw [e1 k hin]
 ·rw [e1 k hin]
 ·rw [e1 k hin]; rfl
 ·rw [e0 k hin]
 ·rw [e0 k hin]
 ·rw [e0 k hin]
 ·obtain rfl : k = x.a.c.ms.length := by omega
  rfl
 ·obtain rfl : k = x.a.c.ms.length := by omega
  rfl
 ·obtain rfl : k = x.a.c.ms.length := by omega
  rfl
 ·have hlt : g < x.a.c.ms.length - 1 := by omega
  have ew : IntKind.i64.wrap ((g : Int) + 1) = (g : Int) + 1 := by rw [wsucc (by omega)]; rfl
  have tn : ((g : Int) + 1).toNat = g + 1 := by omega
  have ec : ((g + 1 : Nat) : Int) = (g : Int) + 1 := rfl
  simp only [ew, tn, po]
  have body : ((((0 : Nat) < x.a.c.ms.length /\ x.a.c.ms.length <= 40) /\ 0 <= (g : Int) + 1 /\ (g : Int) + 1 <= x.a.c.ms.length)) := ⟨⟨by omega, by omega⟩, by omega, by omega⟩
  refine ⟨⟨⟨by omega, by omega⟩, by omega, by omega⟩, ⟨by omega, by omega⟩, by omega, λ _ => ?_, λ _ => ?_⟩ <;>
  ·refine ⟨⟨body, trivial, by omega, n2⟩, λ h => ⟨⟨by omega, by omega⟩, ⟨by omega, by omega⟩, g + 1, ⟨ec, ?_, ?_, ?_⟩, by omega, by omega⟩, λ h => ⟨g + 1, ⟨ec, ?_, ?_, ?_⟩, by omega, by omega⟩⟩
   ·rw [f1 g h]
   ·rw [f1 g h]
   ·rw [f1 g h]; rfl
   ·rw [f0 g h]
   ·rw [f0 g h]
   ·rw [f0 g h]
 ·obtain rfl : g = x.a.c.ms.length - 1 := by omega
  have : stgH x = hul2 x.a x.t (x.a.c.ms.length - 1) := by unfold stgH; rw [ht]; rfl
  rw [this]; exact ⟨rfl, rfl, rfl⟩
 ·obtain rfl : k = x.a.c.ms.length := by omega
  have : stgH x = hul1 x.a x.t x.a.c.ms.length := by unfold stgH; rw [ht]; rfl
  rw [this]; exact ⟨rfl, rfl, rfl⟩
def fsM (x : CZI) : Nat -> Hul × Bool
 | 0 => (zHul, false)
 | k + 1 => bif (fsM x k).2 then fsM x k else bif decide ((gD (stgL x.a.c) k).hi >= x.t) then (hadM (fsM x k).1 (gD (tmL x.a) k), decide ((gD (stgL x.a.c) k).lo >= x.t)) else fsM x k
structure FsR where
 s : Span
 b : Bool
 e : Int
def fsV (x : CZI) : FsR := ⟨(whoM (fsM x x.a.c.ms.length).1).1, bif (fsM x x.a.c.ms.length).2 then (whoM (fsM x x.a.c.ms.length).1).2 == 0 else false, (whoM (fsM x x.a.c.ms.length).1).2⟩
def firstV (x : CZI) : FsR := bif readE x.a == 0 then fsV x else ⟨⟨0, 0⟩, false, readE x.a⟩
def C_First : Ctr := { α := CZI, xs := xCZI, val := λ x => .tup [.d (eSpan (firstV x).s), .bool (firstV x).b, .int (firstV x).e], keep := λ _ => [], pre := λ x => [x.a.c.ms.length < 4611686018427387904 /\ x.a.c.ns.length < 4611686018427387904 /\ x.a.z.length < 4611686018427387904] }
def fs7 (x : CZI) : Shape := { α := Nat, dflt := 0, T := λ k => ⟨[(2, .int x.t), (6, .bptr 202 0), (10, .d (eSpans (tmL x.a))), (11, .d (eSpans (stgL x.a.c))), (13, .bptr 206 0), (14, .bool (fsM x k).2), (15, .int k)], [(202, .live (.box [.int 0, .int 0])), (206, .live (hlB (fsM x k).1))]⟩, inv := λ k => k <= x.a.c.ms.length, meas := λ k => x.a.c.ms.length - k, first := [(202, 1016), (206, 5000)] }
def A_First (x : CZI) : Ann := { ann 69 [(n_read, C_rdO.spec dCZ), (n_hadd, C_hadd.spec dHuS), (n_whole, C_who.spec dHu1)] with loops := λ id => if id = 7 then some [fs7 x] else none }
def A_FirstX : Ann := ann 69 [(n_read, C_rdX.spec dCZ)]
def V_First (x : CZI) : Prop := fnVC Try.prog (A_First x) F_First (bodyOf F_First) (xCZI x) (heapOf []) (.tup [.d (eSpan (fsV x).s), .bool (fsV x).b, .int (fsV x).e]) [] [] []
abbrev z_First_0 (x : CZI) : List Mk := rng x.a.c.ms.length λ (i : Nat) => gD x.a.c.ms i
abbrev z_First_1 (x : CZI) : Nat := (z_First_0 x).length
abbrev z_First_2 (x : CZI) (i : Nat) : Mk := gD (z_First_0 x) i
abbrev z_First_3 (x : CZI) : List Nt := rng x.a.c.ns.length λ (i : Nat) => gD x.a.c.ns i
abbrev z_First_4 (x : CZI) : Nat := (z_First_3 x).length
abbrev z_First_5 (x : CZI) (i : Nat) : Nt := gD (z_First_3 x) i
abbrev z_First_6 (x : CZI) (i : Nat) : Span := (z_First_5 x i).t
abbrev z_First_7 (x : CZI) (i : Nat) : Span := (z_First_5 x i).s
abbrev z_First_8 (x : CZI) : List Int := rng x.a.z.length λ (i : Nat) => gD x.a.z i
abbrev z_First_9 (x : CZI) : Nat := (z_First_8 x).length
abbrev z_First_10 (x : CZI) : Cht := Cht.mk x.a.c.p x.a.c.base x.a.c.scale x.a.c.off (z_First_0 x) (z_First_3 x)
abbrev z_First_11 (x : CZI) : CZ := CZ.mk (z_First_10 x) (z_First_8 x)
abbrev z_First_12 (x : CZI) : List Span := (timesV (begD (z_First_11 x))).fst
abbrev z_First_13 (x : CZI) (i : Nat) : Span := gD (z_First_12 x) i
abbrev z_First_14 (x : CZI) : List Span := stgL (z_First_10 x)
abbrev z_First_15 (i : Nat) (x : CZI) : Prop := i < (stgL x.a.c).length
abbrev z_First_16 (x : CZI) (i : Nat) : Span := gD (z_First_14 x) i
abbrev z_First_17 : Prop := Int.ofNat (0 : Nat) = Int.ofNat (0 : Nat)
abbrev z_First_18 (a : Nat) (x : CZI) : Prop := (↑a : Int) < (↑(tmL x.a).length : Int)
abbrev z_First_19 (a : Nat) : Prop := (0 : Int) <= (↑a : Int)
abbrev z_First_20 (a : Nat) (x : CZI) : Prop := z_First_19 a /\ (↑a : Int) < (↑(stgL x.a.c).length : Int)
abbrev z_First_21 (x : CZI) (a : Nat) : Prop := (gD (tmL x.a) a).lo = (gD (tmL x.a) a).lo
abbrev z_First_22 (x : CZI) (a : Nat) : Prop := (gD (tmL x.a) a).hi = (gD (tmL x.a) a).hi
abbrev z_First_23 (x : CZI) (a : Nat) : Prop := (fsM x a).fst.s.lo = (fsM x a).fst.s.lo
abbrev z_First_24 (x : CZI) (a : Nat) : Prop := (fsM x a).fst.s.hi = (fsM x a).fst.s.hi
abbrev z_First_25 (x : CZI) (a : Nat) : Prop := (fsM x a).fst.m = (fsM x a).fst.m
abbrev z_First_26 (x : CZI) (a : Nat) : Prop := z_First_23 x a /\ z_First_24 x a /\ z_First_25 x a
abbrev z_First_27 (x : CZI) : Prop := (tmL x.a).length = (tmL x.a).length
abbrev z_First_28 (x : CZI) : Prop := ∀ (i : Nat), i < (tmL x.a).length -> z_First_21 x i /\ z_First_22 x i
abbrev z_First_29 (x : CZI) : Prop := (stgL x.a.c).length = (stgL x.a.c).length
abbrev z_First_30 (x : CZI) : Prop := ∀ (i : Nat), z_First_15 i x -> (gD (stgL x.a.c) i).lo = (gD (stgL x.a.c) i).lo /\ (gD (stgL x.a.c) i).hi = (gD (stgL x.a.c) i).hi
abbrev z_First_31 (a : Nat) (a1 : Nat) : Prop := (↑a : Int) = IntKind.i64.wrap ((↑a1 : Int) + (1 : Int))
abbrev z_First_32 (x : CZI) (a : Nat) : Hul := Hul.mk (fsM x a).fst.s (fsM x a).fst.m
abbrev z_First_33 (x : CZI) (a : Nat) : Span := (hadM (z_First_32 x a) (gD (tmL x.a) a)).s
abbrev z_First_34 (x : CZI) (a : Nat) : Nat := x.a.c.ms.length - a
abbrev z_First_35 (a : Nat) (x : CZI) (a1 : Nat) : Prop := a.le x.a.c.ms.length /\ z_First_34 x a < z_First_34 x a1
abbrev z_First_36 (x : CZI) (a : Nat) : Span × Int := whoM (z_First_32 x a)
abbrev z_First_37 (x : CZI) (a : Nat) : Span := (z_First_36 x a).fst
abbrev z_First_38 (x : CZI) (a : Nat) : Int := (z_First_36 x a).snd
theorem vc_First (x : CZI) : (V_First x) = ((x.a.c.p.lo = x.a.c.p.lo /\ x.a.c.p.hi = x.a.c.p.hi /\ x.a.c.base = x.a.c.base /\ x.a.c.scale = x.a.c.scale /\ x.a.c.off = x.a.c.off /\ z_First_1 x = x.a.c.ms.length /\ (∀ (i : Nat),
 i < z_First_1 x -> (z_First_2 x i).pl = (gD x.a.c.ms i).pl /\ (z_First_2 x i).ht = (gD x.a.c.ms i).ht) /\ z_First_4 x = x.a.c.ns.length /\ (∀ (i : Nat), i < z_First_4 x -> (z_First_5 x i).mi = (gD x.a.c.ns i).mi /\ (z_First_6
 x i).lo = (gD x.a.c.ns i).t.lo /\ (z_First_6 x i).hi = (gD x.a.c.ns i).t.hi /\ (z_First_7 x i).lo = (gD x.a.c.ns i).s.lo /\ (z_First_7 x i).hi = (gD x.a.c.ns i).s.hi) /\ z_First_9 x = x.a.z.length /\ (∀ (i : Nat), i <
 z_First_9 x -> gD (z_First_8 x) i = gD x.a.z i) /\ (z_First_1 x < (4611686018427387904 : Nat) /\ z_First_4 x < (4611686018427387904 : Nat) /\ z_First_9 x < (4611686018427387904 : Nat)) /\ readE (z_First_11 x) = (0 : Int)) /\
 (∃ (a : Nat), (x.t = x.t /\ (tmL x.a).length = (z_First_12 x).length /\ (∀ (i : Nat), i < (tmL x.a).length -> (gD (tmL x.a) i).lo = (z_First_13 x i).lo /\ (gD (tmL x.a) i).hi = (z_First_13 x i).hi) /\ (stgL x.a.c).length =
 (z_First_14 x).length /\ (∀ (i : Nat), z_First_15 i x -> (gD (stgL x.a.c) i).lo = (z_First_16 x i).lo /\ (gD (stgL x.a.c) i).hi = (z_First_16 x i).hi) /\ (fsM x a).snd = false /\ (↑a : Int) = (0 : Int) /\ z_First_17 /\
 z_First_17 /\ (fsM x a).fst.s.lo = (0 : Int) /\ (fsM x a).fst.s.hi = (0 : Int) /\ (fsM x a).fst.m = false) /\ a.le x.a.c.ms.length) /\ ∀ (a : Nat), a.le x.a.c.ms.length -> bif bif decide (z_First_18 a x) then !(fsM x a).snd
 else false then z_First_20 a x /\ bif decide ((gD (stgL x.a.c) a).hi >= x.t) then ((z_First_19 a /\ z_First_18 a x) /\ z_First_21 x a /\ z_First_22 x a /\ z_First_26 x a) /\ z_First_20 a x /\ ∃ (a_2 : Nat), (x.t = x.t /\
 z_First_27 x /\ z_First_28 x /\ z_First_29 x /\ z_First_30 x /\ (fsM x a_2).snd = decide ((gD (stgL x.a.c) a).lo >= x.t) /\ z_First_31 a_2 a /\ z_First_17 /\ z_First_17 /\ (fsM x a_2).fst.s.lo = (z_First_33 x a).lo /\ (fsM x
 a_2).fst.s.hi = (z_First_33 x a).hi /\ (fsM x a_2).fst.m = true) /\ z_First_35 a_2 x a else ∃ (a_2 : Nat), (x.t = x.t /\ z_First_27 x /\ z_First_28 x /\ z_First_29 x /\ z_First_30 x /\ (fsM x a_2).snd = (fsM x a).snd /\
 z_First_31 a_2 a /\ z_First_17 /\ z_First_17 /\ (fsM x a_2).fst.s.lo = (fsM x a).fst.s.lo /\ (fsM x a_2).fst.s.hi = (fsM x a).fst.s.hi /\ (fsM x a_2).fst.m = (fsM x a).fst.m) /\ z_First_35 a_2 x a else (z_First_23 x a /\
 z_First_24 x a /\ z_First_25 x a /\ z_First_26 x a) /\ (fsV x).s.lo = (z_First_37 x a).lo /\ (fsV x).s.hi = (z_First_37 x a).hi /\ ((fsV x).b = bif (fsM x a).snd then z_First_38 x a == (0 : Int) else false) /\ (fsV x).e =
 z_First_38 x a) := by kernel_rfl
def V_FirstX (x : CZI) : Prop := fnVC Try.prog A_FirstX F_First (bodyOf F_First) (xCZI x) (heapOf []) (.tup [.d (eSpan zSp), .bool false, .int (readE x.a)]) [] [] []
theorem vc_FirstX (x : CZI) : (V_FirstX x) = ((x.a.c.p.lo = x.a.c.p.lo /\ x.a.c.p.hi = x.a.c.p.hi /\ x.a.c.base = x.a.c.base /\ x.a.c.scale = x.a.c.scale /\ x.a.c.off = x.a.c.off /\ (rng x.a.c.ms.length λ (i : Nat) => gD
 x.a.c.ms i).length = x.a.c.ms.length /\ (∀ (i : Nat), i < (rng x.a.c.ms.length λ (i : Nat) => gD x.a.c.ms i).length -> (gD (rng x.a.c.ms.length λ (i : Nat) => gD x.a.c.ms i) i).pl = (gD x.a.c.ms i).pl /\ (gD (rng
 x.a.c.ms.length λ (i : Nat) => gD x.a.c.ms i) i).ht = (gD x.a.c.ms i).ht) /\ (rng x.a.c.ns.length λ (i : Nat) => gD x.a.c.ns i).length = x.a.c.ns.length /\ (∀ (i : Nat), i < (rng x.a.c.ns.length λ (i : Nat) => gD
 x.a.c.ns i).length -> (gD (rng x.a.c.ns.length λ (i : Nat) => gD x.a.c.ns i) i).mi = (gD x.a.c.ns i).mi /\ (gD (rng x.a.c.ns.length λ (i : Nat) => gD x.a.c.ns i) i).t.lo = (gD x.a.c.ns i).t.lo /\ (gD (rng
 x.a.c.ns.length λ (i : Nat) => gD x.a.c.ns i) i).t.hi = (gD x.a.c.ns i).t.hi /\ (gD (rng x.a.c.ns.length λ (i : Nat) => gD x.a.c.ns i) i).s.lo = (gD x.a.c.ns i).s.lo /\ (gD (rng x.a.c.ns.length λ (i : Nat) => gD
 x.a.c.ns i) i).s.hi = (gD x.a.c.ns i).s.hi) /\ (rng x.a.z.length λ (i : Nat) => gD x.a.z i).length = x.a.z.length /\ (∀ (i : Nat), i < (rng x.a.z.length λ (i : Nat) => gD x.a.z i).length -> gD (rng x.a.z.length λ (i :
 Nat) => gD x.a.z i) i = gD x.a.z i) /\ ((rng x.a.c.ms.length λ (i : Nat) => gD x.a.c.ms i).length < (4611686018427387904 : Nat) /\ (rng x.a.c.ns.length λ (i : Nat) => gD x.a.c.ns i).length < (4611686018427387904 : Nat)
 /\ (rng x.a.z.length λ (i : Nat) => gD x.a.z i).length < (4611686018427387904 : Nat)) /\ readE (CZ.mk (Cht.mk x.a.c.p x.a.c.base x.a.c.scale x.a.c.off (rng x.a.c.ms.length λ (i : Nat) => gD x.a.c.ms i) (rng
 x.a.c.ns.length λ (i : Nat) => gD x.a.c.ns i)) (rng x.a.z.length λ (i : Nat) => gD x.a.z i)) ≠ (0 : Int)) /\ bif readE (CZ.mk (Cht.mk x.a.c.p x.a.c.base x.a.c.scale x.a.c.off (rng x.a.c.ms.length λ (i : Nat) => gD
 x.a.c.ms i) (rng x.a.c.ns.length λ (i : Nat) => gD x.a.c.ns i)) (rng x.a.z.length λ (i : Nat) => gD x.a.z i)) != (0 : Int) then Int.ofNat (0 : Nat) = Int.ofNat (0 : Nat) /\ Int.ofNat (0 : Nat) = Int.ofNat (0 : Nat) /\
 false = false /\ readE x.a = readE (CZ.mk (Cht.mk x.a.c.p x.a.c.base x.a.c.scale x.a.c.off (rng x.a.c.ms.length λ (i : Nat) => gD x.a.c.ms i) (rng x.a.c.ns.length λ (i : Nat) => gD x.a.c.ns i)) (rng x.a.z.length fun
 (i : Nat) => gD x.a.z i)) else False) := by kernel_rfl
theorem ok_Stage : SpecOk Try.prog n_Stage (C_Stage.spec dCZI) := okT C_Stage (λ (x : CZI) h => by
 have h1 : x.a.c.ms.length < 4611686018427387904 /\ x.a.c.ns.length < 4611686018427387904 /\ x.a.z.length < 4611686018427387904 := h
 by_cases c0 : readE x.a = 0
 ·have e : C_Stage.val x = .tup [.d (eSpan (whoM (stgH x)).1), .int (whoM (stgH x)).2] := by
   show AVal.tup [.d (eSpan (stageV x).1), .int (stageV x).2] = _
   unfold stageV; rw [c0]; rfl
  rw [e]
  exact fnt (A := A_Stage x) (L := []) (keep := []) (ren := []) (fz := []) fn_Stage (by kernel_rfl) (gok_cons ok_rdO (gok_cons ok_in (gok_cons ok_hadd (gok_cons ok_gaps (gok_cons ok_part (gok_cons ok_nar (gok_cons ok_who gok_nil))))))) (p_Stage x h1 c0) (iterI n_gaps1 (itSg x) rfl rfl gok_nil fn_gaps1 (by kernel_rfl) (by kernel_rfl))
 ·have c0' : (readE x.a == 0) = false := by simpa using c0
  have e : C_Stage.val x = .tup [.d (eSpan zSp), .int (readE x.a)] := by
   show AVal.tup [.d (eSpan (stageV x).1), .int (stageV x).2] = _
   unfold stageV; rw [c0']; rfl
  rw [e]
  refine fnt (A := A_StageX) (L := []) (keep := []) (ren := []) (fz := []) fn_Stage (by kernel_rfl) (gok_cons ok_rdX gok_nil) ?_
  show V_StageX x; rw [vc_StageX]; simp only [condP, eq_self, implies_true, and_self, true_and, and_true, true_implies, forall_const, decide_eq_true_eq, decide_eq_false_iff_not, Int.toNat_natCast, dSpan_eSpan, dInt_eInt, dMk_e, dNt_e, dPr_e, Nat.zero_add, Int.zero_sub, Nat.le_eq, Nat.succ_eq_add_one, Nat.add_one_le_iff, Bool.not_eq_true', Bool.not_eq_false', rng_length, dSpan_mk, rng_getD, cht_eta, cz_eta]
  exact ⟨⟨h1, c0⟩, λ h => by simp [c0] at h⟩) _
theorem fs_stay {x : CZI} {k : Nat} (h : (fsM x k).2 = true) : ∀ d, fsM x (k + d) = fsM x k
 | 0 => rfl
 | d + 1 => by
  have ih := fs_stay h d
  show (bif (fsM x (k + d)).2 then fsM x (k + d) else _) = _
  rw [ih, h]; rfl
theorem p_First (x : CZI) (h1 : x.a.c.ms.length < 4611686018427387904 /\ x.a.c.ns.length < 4611686018427387904 /\ x.a.z.length < 4611686018427387904) (c0 : readE x.a = 0) : V_First x := by
 have tl := tmL_len c0
 have sl := stgL_len x.a.c
 obtain ⟨_, ⟨n1, n2⟩, _⟩ := headC_len (readE_0 c0).1
 rw [vc_First]; delta z_First_0 z_First_1 z_First_2 z_First_3 z_First_4 z_First_5 z_First_6 z_First_7 z_First_8 z_First_9 z_First_10 z_First_11 z_First_12 z_First_13 z_First_14 z_First_15 z_First_16 z_First_17 z_First_18 z_First_19 z_First_20 z_First_21 z_First_22 z_First_23 z_First_24 z_First_25 z_First_26 z_First_27 z_First_28 z_First_29 z_First_30 z_First_31 z_First_32 z_First_33 z_First_34 z_First_35 z_First_36 z_First_37 z_First_38; simp only [condP, eq_self, implies_true, and_self, true_and, and_true, true_implies, forall_const, decide_eq_true_eq, decide_eq_false_iff_not, Int.toNat_natCast, dSpan_eSpan, dInt_eInt, dMk_e, dNt_e, dPr_e, Nat.zero_add, Int.zero_sub, Nat.le_eq, Nat.succ_eq_add_one, Nat.add_one_le_iff, Bool.not_eq_true', Bool.not_eq_false', rng_length, dSpan_mk, rng_getD, cht_eta, dk_eta, begD_c, cz_eta, begD_eta, hul_eta, tmL_d]; simp only [tl, sl]
 refine ⟨⟨h1, c0⟩, ⟨0, ⟨rfl, rfl, rfl, rfl, rfl⟩, Nat.zero_le _⟩, λ k hk => ⟨λ hc => ?_, λ hc => ?_⟩⟩
 ·have hlt : k < x.a.c.ms.length := by
   cases hd : decide ((k : Int) < x.a.c.ms.length) with
   | false => rw [hd] at hc; cases hc
   | true => have := of_decide_eq_true hd; omega
  have hs : (fsM x k).2 = false := by
   rw [decide_eq_true (show (k : Int) < x.a.c.ms.length by omega)] at hc
   cases hq : (fsM x k).2 with
   | false => rfl
   | true => rw [hq] at hc; cases hc
  refine ⟨by omega, λ h => ?_, λ h => ?_⟩
  ·have e : fsM x (k + 1) = (hadM (fsM x k).1 (gD (tmL x.a) k), decide ((gD (stgL x.a.c) k).lo >= x.t)) := by
    show (bif (fsM x k).2 then _ else bif decide _ then _ else _) = _
    rw [hs, decide_eq_true h]; rfl
   refine ⟨by omega, by omega, k + 1, ⟨?_, (wsucc (by omega)).symm, ?_, ?_, ?_⟩, by omega, by omega⟩ <;> rw [e] <;> rfl
  ·have e : fsM x (k + 1) = fsM x k := by
    show (bif (fsM x k).2 then _ else bif decide _ then _ else _) = _
    rw [hs, decide_eq_false h]; rfl
   refine ⟨k + 1, ⟨?_, (wsucc (by omega)).symm, ?_, ?_, ?_⟩, by omega, by omega⟩ <;> rw [e]
 ·have e : fsM x x.a.c.ms.length = fsM x k := by
   cases hq : (fsM x k).2 with
   | true =>
    obtain ⟨d, hd⟩ : ∃ d, x.a.c.ms.length = k + d := ⟨x.a.c.ms.length - k, by omega⟩
    rw [hd]; exact fs_stay hq d
   | false =>
    rw [hq] at hc
    cases hd : decide ((k : Int) < x.a.c.ms.length) with
    | true => rw [hd] at hc; cases hc
    | false =>
     have := of_decide_eq_false hd
     rw [show k = x.a.c.ms.length by omega]
  unfold fsV; rw [e]; exact ⟨rfl, rfl, rfl, rfl⟩
theorem ok_First : SpecOk Try.prog n_First (C_First.spec dCZI) := okT C_First (λ (x : CZI) h => by
 have h1 : x.a.c.ms.length < 4611686018427387904 /\ x.a.c.ns.length < 4611686018427387904 /\ x.a.z.length < 4611686018427387904 := h
 by_cases c0 : readE x.a = 0
 ·have e : C_First.val x = .tup [.d (eSpan (fsV x).s), .bool (fsV x).b, .int (fsV x).e] := by
   show AVal.tup [.d (eSpan (firstV x).s), .bool (firstV x).b, .int (firstV x).e] = _
   unfold firstV; rw [c0]; rfl
  rw [e]
  exact fnt (A := A_First x) (L := []) (keep := []) (ren := []) (fz := []) fn_First (by kernel_rfl) (gok_cons ok_rdO (gok_cons ok_hadd (gok_cons ok_who gok_nil))) (p_First x h1 c0)
 ·have c0' : (readE x.a == 0) = false := by simpa using c0
  have e : C_First.val x = .tup [.d (eSpan zSp), .bool false, .int (readE x.a)] := by
   show AVal.tup [.d (eSpan (firstV x).s), .bool (firstV x).b, .int (firstV x).e] = _
   unfold firstV; rw [c0']; rfl
  rw [e]
  refine fnt (A := A_FirstX) (L := []) (keep := []) (ren := []) (fz := []) fn_First (by kernel_rfl) (gok_cons ok_rdX gok_nil) ?_
  show V_FirstX x; rw [vc_FirstX]; simp only [condP, eq_self, implies_true, and_self, true_and, and_true, true_implies, forall_const, decide_eq_true_eq, decide_eq_false_iff_not, Int.toNat_natCast, dSpan_eSpan, dInt_eInt, dMk_e, dNt_e, dPr_e, Nat.zero_add, Int.zero_sub, Nat.le_eq, Nat.succ_eq_add_one, Nat.add_one_le_iff, Bool.not_eq_true', Bool.not_eq_false', rng_length, dSpan_mk, rng_getD, cht_eta, cz_eta]
  exact ⟨⟨h1, c0⟩, λ h => by simp [c0] at h⟩) _
end Go.Bal
