/- Law RatingReached: its walk. -/
import Derived.Test.YtoihhodbkimedaaRT7
import Derived.Test.YtoihhodbkimedaaRatAr
set_option linter.unusedVariables false
set_option linter.unusedSimpArgs false
namespace Go.Bal
open Go Go.Sym Go.Proofs
structure ReI where
 bs : List Int
 a : Int
 b : Int
 c : Int
def reM (x : ReI) : MkI := ⟨⟨x.bs, 0, 0⟩, 10⟩
def reG (x : ReI) : List Gau := mdG (reM x)
def reR (x : ReI) : Rtg := mdR (reM x)
def reA (x : ReI) : Int := pickV x.a 300
def reT (x : ReI) : GBt := ⟨reG x, (reR x).b, reA x⟩
def reX (x : ReI) : Ln := rchL ⟨reT x, false⟩
def reY (x : ReI) : Ln := rchL ⟨reT x, true⟩
def reP (x : ReI) : Nat := ptM (reR x).b (reA x)
def inPt (b : List Int) (k : Nat) (g : Gau) : Bool := bif (bif (k : Int) == 0 then true else decide (g.st >= gD b (IntKind.i64.wrap ((k : Int) - 1)).toNat)) then (bif (k : Int) == (b.length : Int) then true else decide (g.st < gD b k)) else false
def reK (x : ReI) (n : Nat) : List Gau := ((reG x).take n).filter (inPt (reR x).b (reP x))
def reN (x : ReI) : List Gau := reK x (reG x).length
def reS (x : ReI) (k : Nat) : List (Nat × AVal) := [(2, .int x.b), (3, .int x.c), (9, .d (eGaus (reG x))), (10, .bptr 2096 0), (11, .int (reA x)), (12, .bptr 4128 0), (14, .bptr 5128 0), (16, .bptr 6128 0), (18, .int k)]
def bndC (b : Bnd) : HCell := .live (.box [.int b.lo.n, .int b.lo.d, .int b.hi.n, .int b.hi.d])
def reH (x : ReI) : List (Nat × HCell) := [(2096, rtgC (reR x)), (4128, bndC (flowB (reT x))), (5128, lnBx (reX x)), (6128, lnBx (reY x))]
def re9 (x : ReI) : Shape := { α := Nat, dflt := 0, T := λ k => ⟨reS x k, reH x⟩, inv := λ k => k <= (reR x).b.length /\ reP x = ptK (reR x).b (reA x) ((reR x).b.length - k) k, meas := λ k => (reR x).b.length - k }
def re11 (x : ReI) : Shape := { α := One, dflt := default, T := λ _ => ⟨reS x (reP x), reH x⟩, inv := λ _ => True, meas := λ _ => 0 }
def re13n (x : ReI) : Shape := { α := Nat, dflt := 0, T := λ k => ⟨reS x (reP x) ++ [(19, .d nilL), (20, .int k)], reH x⟩, inv := λ k => k <= (reG x).length /\ reK x k = [], meas := λ k => (reG x).length - k }
def re13o (x : ReI) : Shape := { α := GsK, dflt := default, T := λ y => ⟨reS x (reP x) ++ [(19, .own 303 3 0 y.l.length), (20, .int y.i)], reH x ++ [(303, .live (rowG y.l))]⟩, inv := λ y => y.i <= (reG x).length /\ y.l = reK x y.i, meas := λ y => (reG x).length - y.i }
def re14n (x : ReI) (m : Nat) : Shape := { α := Nat, dflt := 0, T := λ k => ⟨reS x (reP x) ++ [(19, .d nilL), (20, .int k)], reH x⟩, inv := λ k => k < (reG x).length /\ (reG x).length - k = m /\ reK x (k + 1) = [], meas := λ _ => 0 }
def re14o (x : ReI) (m : Nat) (f : List (Nat × Nat)) : Shape := { α := GsK, dflt := default, T := λ y => ⟨reS x (reP x) ++ [(19, .own 303 3 0 y.l.length), (20, .int y.i)], reH x ++ [(303, .live (rowG y.l))]⟩, inv := λ y => y.i < (reG x).length /\ (reG x).length - y.i = m /\ y.l = reK x (y.i + 1), meas := λ _ => 0, first := f }
def reQ (x : ReI) : List (Nat × AVal) := [(2, .int x.b), (3, .int x.c), (11, .int (reA x)), (12, .bptr 4128 0), (19, .d (eGaus (reN x)))]
def re17 (x : ReI) : Shape := { α := One, dflt := default, T := λ _ => ⟨reQ x ++ [(14, .bptr 5128 0), (16, .bptr 6128 0)], [(4128, bndC (flowB (reT x))), (5128, lnBx (reX x)), (6128, lnBx (reY x))]⟩, inv := λ _ => True, meas := λ _ => 0, ffz := [303] }
def reL (x : ReI) : List Ln := [reX x, reY x]
def re18 (x : ReI) : Shape := { α := Nat, dflt := 0, T := λ k => ⟨reQ x ++ [(148, .d (lst 4 2 λ i => eLn (gD (reL x) i))), (149, .int 2), (150, .int k)], [(4128, bndC (flowB (reT x)))]⟩, inv := λ k => k <= 2, meas := λ k => 2 - k }
def re29 (x : ReI) : Shape := { α := One, dflt := default, T := λ _ => ⟨reQ x, [(4128, bndC (flowB (reT x)))]⟩, inv := λ _ => True, meas := λ _ => 0 }
def reGp (x : ReI) (v : Int) : Gau := gD (reN x) (pickV v (reN x).length).toNat
def reZ (x : ReI) : Ln := ⟨(reGp x x.b).st, wr ((reGp x x.b).lo + pickV x.b (wr (wr ((reGp x x.b).hi - (reGp x x.b).lo) + 1))), (reGp x x.c).st, wr ((reGp x x.c).lo + pickV x.c (wr (wr ((reGp x x.c).hi - (reGp x x.c).lo) + 1)))⟩
def reW (x : ReI) : Rtg := ⟨[], [reZ x]⟩
def re36 (x : ReI) : Shape := { α := One, dflt := default, T := λ _ => ⟨[(11, .int (reA x)), (12, .bptr 4128 0), (19, .d (eGaus (reN x))), (31, .bptr 36592 0)], [(4128, bndC (flowB (reT x))), (36592, rtgC (reW x))]⟩, inv := λ _ => True, meas := λ _ => 0, ffz := [36560] }
def xRe (x : ReI) : List AVal := [.d (eBys x.bs), .int x.a, .int x.b, .int x.c]
def A_Re (x : ReI) : Ann := { ann 315 [(n_New, C_New.spec d_New), (n_Made, C_Made.spec dMkI), (n_Pick, s_Pick), (n_Flow, C_Flow.spec dGBt), (n_Reach, C_Reach.spec dGBu), (n_Passes, C_Passes.spec dGR), (n_At, C_At.spec dRtI), (n_CheckR, C_CheckR.spec dRt1), (n_sound, s_sound), (n_below, s_below), (n_awake, s_awake)] with mt := λ id => id == 16 || id == 35, md := λ id => if id = 17 then some (λ k => if k = 2 then 4 else 0) else if id = 20 then some (λ k => if k = 1 then 4 else 0) else none, loops := λ id => if id = 9 then some [re9 x] else if id = 13 then some [re13n x, re13o x] else if id = 18 then some [re18 x] else none, cut := λ id => if id = 11 then some [re11 x] else if id = 17 then some [re17 x] else if id = 29 then some [re29 x] else if id = 36 then some [re36 x] else none, cutIn := λ gs id => if id = 14 then some [re14n x (gs.getD 0 0), re14o x (gs.getD 0 0) [(303, 17096)], re14o x (gs.getD 0 0) []] else none }
def V_Re (x : ReI) : Prop := fnVC Try.prog (A_Re x) F_lReached (bodyOf F_lReached) (xRe x) (heapOf []) (.bool true) [] [] []
abbrev z_Re_0 (x : ReI) : List Int := rng x.bs.length λ (i : Nat) => gD x.bs i
abbrev z_Re_1 (x : ReI) : Nat := (z_Re_0 x).length
abbrev z_Re_2 (x : ReI) (i : Nat) : Int := gD (z_Re_0 x) i
abbrev z_Re_3 (x : ReI) : List Int := rng (z_Re_1 x) λ (i : Nat) => z_Re_2 x i
abbrev z_Re_4 (x : ReI) : Nat := (z_Re_3 x).length
abbrev z_Re_5 : Prop := (0 : Int) = (0 : Int)
abbrev z_Re_6 (x : ReI) : Stm := Stm.mk (z_Re_3 x) (0 : Int) (0 : Int)
abbrev z_Re_7 (x : ReI) : MkI := MkI.mk (z_Re_6 x) (10 : Int)
abbrev z_Re_8 (x : ReI) : List Gau := mdG (z_Re_7 x)
abbrev z_Re_9 (x : ReI) : Nat := (z_Re_8 x).length
abbrev z_Re_10 (x : ReI) (i : Nat) : Gau := gD (z_Re_8 x) i
abbrev z_Re_11 (x : ReI) : List Gau := rng (z_Re_9 x) λ (i : Nat) => z_Re_10 x i
abbrev z_Re_12 (x : ReI) : Nat := (z_Re_11 x).length
abbrev z_Re_13 (x : ReI) : Prop := z_Re_12 x = z_Re_9 x
abbrev z_Re_14 (x : ReI) (i : Nat) : Gau := gD (z_Re_11 x) i
abbrev z_Re_15 (x : ReI) (i : Nat) : Int := (z_Re_10 x i).st
abbrev z_Re_16 (x : ReI) (i : Nat) : Int := (z_Re_10 x i).lo
abbrev z_Re_17 (x : ReI) (i : Nat) : Int := (z_Re_10 x i).hi
abbrev z_Re_18 (x : ReI) : Prop := ∀ (i : Nat), i < z_Re_12 x -> (z_Re_14 x i).st = z_Re_15 x i /\ (z_Re_14 x i).lo = z_Re_16 x i /\ (z_Re_14 x i).hi = z_Re_17 x i
abbrev z_Re_19 (x : ReI) : Rtg := mdR (z_Re_7 x)
abbrev z_Re_20 (x : ReI) : List Int := (z_Re_19 x).b
abbrev z_Re_21 (x : ReI) : Nat := (z_Re_20 x).length
abbrev z_Re_22 (x : ReI) (i : Nat) : Int := gD (z_Re_20 x) i
abbrev z_Re_23 (x : ReI) : List Int := rng (z_Re_21 x) λ (i : Nat) => z_Re_22 x i
abbrev z_Re_24 (x : ReI) : Nat := (z_Re_23 x).length
abbrev z_Re_25 (x : ReI) : Prop := z_Re_24 x = z_Re_21 x
abbrev z_Re_26 (x : ReI) : Prop := ∀ (i : Nat), i < z_Re_24 x -> gD (z_Re_23 x) i = z_Re_22 x i
abbrev z_Re_27 (x : ReI) : Prop := pickV x.a (300 : Int) = pickV x.a (300 : Int)
abbrev z_Re_28 (x : ReI) : Prop := (z_Re_12 x < (4611686018427387904 : Nat) /\ z_Re_24 x < (4611686018427387904 : Nat)) /\ True
abbrev z_Re_29 (x : ReI) : GBt := GBt.mk (z_Re_11 x) (z_Re_23 x) (pickV x.a (300 : Int))
abbrev z_Re_30 (x : ReI) : Bool := flowE (z_Re_29 x) != (0 : Int)
abbrev z_Re_31 (x : ReI) : Bnd := flowB (z_Re_29 x)
abbrev z_Re_32 (x : ReI) : Rt := (z_Re_31 x).lo
abbrev z_Re_33 (x : ReI) : Rt := (z_Re_31 x).hi
abbrev z_Re_34 (a : Nat) : Prop := (↑a : Int) = (0 : Int)
abbrev z_Re_35 (x : ReI) : List Ln := (z_Re_19 x).l
abbrev z_Re_36 (x : ReI) (i : Nat) : Ln := gD (z_Re_35 x) i
abbrev z_Re_37 (x : ReI) : Ln := rchL (GBu.mk (z_Re_29 x) false)
abbrev z_Re_38 (x : ReI) : Ln := rchL (GBu.mk (z_Re_29 x) true)
abbrev z_Re_39 (x : ReI) (a : Nat) : Nat := (reR x).b.length - a
abbrev z_Re_40 (a : Nat) (x : ReI) : Prop := a <= (reR x).b.length /\ reP x = ptK (reR x).b (reA x) (z_Re_39 x a) a
abbrev z_Re_41 (a : Nat) (x : ReI) : Prop := (↑a : Int) < (↑(reR x).b.length : Int)
abbrev z_Re_42 (a : Nat) (x : ReI) : Bool := decide (z_Re_41 a x)
abbrev z_Re_43 (a : Nat) : Prop := (0 : Int) <= (↑a : Int)
abbrev z_Re_44 (x : ReI) : Prop := (reG x).length = (reG x).length
abbrev z_Re_45 (x : ReI) : Prop := ∀ (i : Nat), i < (reG x).length -> (gD (reG x) i).st = (gD (reG x) i).st /\ (gD (reG x) i).lo = (gD (reG x) i).lo /\ (gD (reG x) i).hi = (gD (reG x) i).hi
abbrev z_Re_46 (a : Nat) (a1 : Nat) : Prop := (↑a : Int) = IntKind.i64.wrap ((↑a1 : Int) + (1 : Int))
abbrev z_Re_47 (x : ReI) : Prop := (reR x).b.length = (reR x).b.length
abbrev z_Re_48 (x : ReI) : Prop := ∀ (i : Nat), i < (reR x).b.length -> gD (reR x).b i = gD (reR x).b i
abbrev z_Re_49 (x : ReI) : Prop := (reR x).l.length = (reR x).l.length
abbrev z_Re_50 (x : ReI) : Prop := ∀ (i : Nat), i < (reR x).l.length -> (gD (reR x).l i).a0 = (gD (reR x).l i).a0 /\ (gD (reR x).l i).a1 = (gD (reR x).l i).a1 /\ (gD (reR x).l i).b0 = (gD (reR x).l i).b0 /\ (gD (reR x).l
 i).b1 = (gD (reR x).l i).b1
abbrev z_Re_51 (x : ReI) : Prop := (flowB (reT x)).lo.n = (flowB (reT x)).lo.n
abbrev z_Re_52 (x : ReI) : Prop := (flowB (reT x)).lo.d = (flowB (reT x)).lo.d
abbrev z_Re_53 (x : ReI) : Prop := (flowB (reT x)).hi.n = (flowB (reT x)).hi.n
abbrev z_Re_54 (x : ReI) : Prop := (flowB (reT x)).hi.d = (flowB (reT x)).hi.d
abbrev z_Re_55 (x : ReI) : Prop := z_Re_51 x /\ z_Re_52 x /\ z_Re_53 x /\ z_Re_54 x /\ (reX x).a0 = (reX x).a0 /\ (reX x).a1 = (reX x).a1 /\ (reX x).b0 = (reX x).b0 /\ (reX x).b1 = (reX x).b1 /\ (reY x).a0 = (reY x).a0 /\ (reY
 x).a1 = (reY x).a1 /\ (reY x).b0 = (reY x).b0 /\ (reY x).b1 = (reY x).b1
abbrev z_Re_56 (x : ReI) : Prop := z_Re_47 x /\ z_Re_48 x /\ z_Re_49 x /\ z_Re_50 x /\ z_Re_55 x
abbrev z_Re_57 (a : Nat) (a1 : Nat) (x : ReI) : Prop := z_Re_46 a a1 /\ z_Re_56 x
abbrev z_Re_58 (x : ReI) : Prop := (↑(reP x) : Int) = (↑(reP x) : Int)
abbrev z_Re_59 : Prop := (0 : Nat) = (0 : Nat)
abbrev z_Re_60 : Prop := ∀ (i : Nat), i < (0 : Nat) -> false = false
abbrev z_Re_61 (a : Nat) (x : ReI) : Prop := a <= (reG x).length /\ reK x a = []
abbrev z_Re_62 (a : Nat) (x : ReI) : Prop := (↑a : Int) < (↑(reG x).length : Int)
abbrev z_Re_63 (x : ReI) : Bool := (↑(reP x) : Int) == (0 : Int)
abbrev z_Re_64 (x : ReI) : Prop := (!z_Re_63 x) = true
abbrev z_Re_65 (a : Nat) (x : ReI) : Prop := z_Re_43 a /\ z_Re_62 a x
abbrev z_Re_66 (x : ReI) : Int := IntKind.i64.wrap ((↑(reP x) : Int) - (1 : Int))
abbrev z_Re_67 (x : ReI) : Prop := z_Re_64 x -> (0 : Int) <= z_Re_66 x /\ z_Re_66 x < (↑(reR x).b.length : Int)
abbrev z_Re_68 (x : ReI) : Int := gD (reR x).b (z_Re_66 x).toNat
abbrev z_Re_69 (x : ReI) (a : Nat) : Bool := bif z_Re_63 x then true else decide ((gD (reG x) a).st >= z_Re_68 x)
abbrev z_Re_70 (x : ReI) : Bool := (↑(reP x) : Int) == (↑(reR x).b.length : Int)
abbrev z_Re_71 (x : ReI) : Bool := !z_Re_70 x
abbrev z_Re_72 (x : ReI) (a : Nat) : Prop := (z_Re_69 x a && z_Re_71 x) = true
abbrev z_Re_73 (x : ReI) : Prop := (0 : Int) <= (↑(reP x) : Int) /\ (↑(reP x) : Int) < (↑(reR x).b.length : Int)
abbrev z_Re_74 : Prop := (1 : Nat) <= (1 : Nat)
abbrev z_Re_75 : Prop := (0 : Nat) < (1 : Nat)
abbrev z_Re_76 : Prop := (3 : Nat) = (3 : Nat)
abbrev z_Re_77 : Prop := z_Re_74 /\ (z_Re_75 -> z_Re_76)
abbrev z_Re_78 (a : GsK) : Prop := a.l.length = (1 : Nat)
abbrev z_Re_79 (x : ReI) (a : GsK) : Nat := (reG x).length - a.i
abbrev z_Re_80 (x : ReI) (a : Nat) : Nat := (reG x).length - a
abbrev z_Re_81 (a : GsK) (x : ReI) : Prop := a.l = reK x (a.i + (1 : Nat))
abbrev z_Re_82 (a : GsK) (x : ReI) (a1 : Nat) : Prop := a.i < (reG x).length /\ z_Re_79 x a = z_Re_80 x a1 /\ z_Re_81 a x
abbrev z_Re_83 (x : ReI) (a : Nat) : Prop := reK x (a + (1 : Nat)) = []
abbrev z_Re_84 (a : Nat) (x : ReI) (a1 : Nat) : Prop := a < (reG x).length /\ z_Re_80 x a = z_Re_80 x a1 /\ z_Re_83 x a
abbrev z_Re_85 (x : ReI) (a : Nat) (a1 : Nat) : Prop := x.b = x.b /\ x.c = x.c /\ z_Re_44 x /\ z_Re_45 x /\ reA x = reA x /\ z_Re_58 x /\ z_Re_59 /\ z_Re_60 /\ z_Re_57 a a1 x
abbrev z_Re_86 (a : GsK) (a1 : GsK) : Prop := a.l.length = a1.l.length
abbrev z_Re_87 (x : ReI) (a : GsK) (a1 : GsK) : Prop := z_Re_47 x /\ z_Re_48 x /\ z_Re_49 x /\ z_Re_50 x /\ z_Re_51 x /\ z_Re_52 x /\ z_Re_53 x /\ z_Re_54 x /\ (reX x).a0 = (reX x).a0 /\ (reX x).a1 = (reX x).a1 /\ (reX x).b0 =
 (reX x).b0 /\ (reX x).b1 = (reX x).b1 /\ (reY x).a0 = (reY x).a0 /\ (reY x).a1 = (reY x).a1 /\ (reY x).b0 = (reY x).b0 /\ (reY x).b1 = (reY x).b1 /\ z_Re_86 a a1 /\ ∀ (i : Nat), i < a.l.length -> (gD a.l i).st = (gD a1.l i).st /\
 (gD a.l i).lo = (gD a1.l i).lo /\ (gD a.l i).hi = (gD a1.l i).hi
abbrev z_Re_88 (x : ReI) (a : GsK) (a1 : GsK) : Prop := x.b = x.b /\ x.c = x.c /\ z_Re_44 x /\ z_Re_45 x /\ reA x = reA x /\ z_Re_58 x /\ z_Re_59 /\ z_Re_86 a a1 /\ (↑a.i : Int) = IntKind.i64.wrap ((↑a1.i : Int) + (1 : Int)) /\
 z_Re_87 x a a1
abbrev z_Re_89 (a : GsK) (x : ReI) : Prop := a.i <= (reG x).length /\ a.l = reK x a.i
abbrev z_Re_90 (x : ReI) (a : Nat) : Prop := ∀ (a_1 : GsK), z_Re_82 a_1 x a -> ∃ (a_3 : GsK), z_Re_88 x a_3 a_1 /\ z_Re_89 a_3 x /\ z_Re_79 x a_3 < z_Re_80 x a
abbrev z_Re_91 (x : ReI) : Prop := (reN x).length = (0 : Nat)
abbrev z_Re_92 (a : GsK) (x : ReI) : Prop := (↑a.i : Int) < (↑(reG x).length : Int)
abbrev z_Re_93 (a : GsK) (x : ReI) : Prop := (0 : Int) <= (↑a.i : Int) /\ z_Re_92 a x
abbrev z_Re_94 (x : ReI) (a : GsK) : Bool := bif z_Re_63 x then true else decide ((gD (reG x) a.i).st >= z_Re_68 x)
abbrev z_Re_95 (x : ReI) (a : GsK) : Prop := (z_Re_94 x a && z_Re_71 x) = true
abbrev z_Re_96 (a : GsK) : Nat := a.l.length + (1 : Nat)
abbrev z_Re_97 (a : GsK) (a1 : GsK) : Prop := a.l.length = z_Re_96 a1
abbrev z_Re_98 (a : GsK) (a1 : GsK) : Prop := (↑a.i : Int) = (↑a1.i : Int)
abbrev z_Re_99 (i : Nat) (a : GsK) : Bool := decide (i < a.l.length)
abbrev z_Re_100 (a : GsK) (x : ReI) (a1 : GsK) : Prop := a.i < (reG x).length /\ z_Re_79 x a = z_Re_79 x a1 /\ z_Re_81 a x
abbrev z_Re_101 (x : ReI) (a : GsK) : Prop := ∀ (a_1 : GsK), z_Re_100 a_1 x a -> ∃ (a_3 : GsK), z_Re_88 x a_3 a_1 /\ z_Re_89 a_3 x /\ z_Re_79 x a_3 < z_Re_79 x a
abbrev z_Re_102 (a : GsK) (j : Nat) : Gau := gD a.l ((0 : Nat) + j)
abbrev z_Re_103 (x : ReI) : Prop := (reN x).length = (reN x).length
abbrev z_Re_104 (x : ReI) : Prop := ∀ (i : Nat), i < (reN x).length -> (gD (reN x) i).st = (gD (reN x) i).st /\ (gD (reN x) i).lo = (gD (reN x) i).lo /\ (gD (reN x) i).hi = (gD (reN x) i).hi
abbrev z_Re_105 : Prop := (2 : Nat) = (2 : Nat)
abbrev z_Re_106 (i : Nat) : Bool := decide (i = (0 : Nat))
abbrev z_Re_107 : Prop := Int.ofNat (2 : Nat) = Int.ofNat (2 : Nat)
abbrev z_Re_108 (x : ReI) : Prop := z_Re_51 x /\ z_Re_52 x /\ z_Re_53 x /\ z_Re_54 x
abbrev z_Re_109 : List Int := rng (0 : Nat) λ (i : Nat) => default
abbrev z_Re_110 : Nat := z_Re_109.length
abbrev z_Re_111 : Prop := z_Re_110 = (0 : Nat)
abbrev z_Re_112 (x : ReI) (a : Nat) : List Ln := rng (1 : Nat) λ (i : Nat) => gD (reL x) a
abbrev z_Re_113 (x : ReI) (a : Nat) : Nat := (z_Re_112 x a).length
abbrev z_Re_114 (x : ReI) (a : Nat) : Prop := z_Re_113 x a = (1 : Nat)
abbrev z_Re_115 (x : ReI) (a : Nat) (i : Nat) : Ln := gD (z_Re_112 x a) i
abbrev z_Re_116 (x : ReI) (a : Nat) : Prop := ∀ (i : Nat), i < z_Re_113 x a -> (z_Re_115 x a i).a0 = (gD (reL x) a).a0 /\ (z_Re_115 x a i).a1 = (gD (reL x) a).a1 /\ (z_Re_115 x a i).b0 = (gD (reL x) a).b0 /\ (z_Re_115 x a
 i).b1 = (gD (reL x) a).b1
abbrev z_Re_117 (x : ReI) (a : Nat) : Prop := z_Re_110 < (1073741824 : Nat) /\ z_Re_113 x a < (1073741824 : Nat)
abbrev z_Re_118 (x : ReI) (a : Nat) : Rtg := Rtg.mk z_Re_109 (z_Re_112 x a)
abbrev z_Re_119 (x : ReI) (a : Nat) : RtI := RtI.mk (z_Re_118 x a) (reA x)
abbrev z_Re_120 (x : ReI) (a : Nat) : Rt := atM (z_Re_119 x a)
abbrev z_Re_121 (x : ReI) (a : Nat) : Int := (z_Re_120 x a).n
abbrev z_Re_122 (x : ReI) (a : Nat) : Int := (z_Re_120 x a).d
abbrev z_Re_123 (x : ReI) : Bool := (↑(reN x).length : Int) == (0 : Int)
abbrev z_Re_124 (a : Nat) : Nat := (2 : Nat) - a
abbrev z_Re_125 (x : ReI) (a : Nat) : Prop := ∃ (a_1 : Nat), (x.b = x.b /\ x.c = x.c /\ reA x = reA x /\ z_Re_103 x /\ z_Re_104 x /\ z_Re_105 /\ (∀ (i : Nat), i < (2 : Nat) -> (gD (reL x) i).a0 = (gD (reL x) i).a0 /\ (gD (reL x)
 i).a1 = (gD (reL x) i).a1 /\ (gD (reL x) i).b0 = (gD (reL x) i).b0 /\ (gD (reL x) i).b1 = (gD (reL x) i).b1) /\ z_Re_107 /\ z_Re_46 a_1 a /\ z_Re_108 x) /\ a_1.le (2 : Nat) /\ z_Re_124 a_1 < z_Re_124 a
abbrev z_Re_126 (x : ReI) : List Gau := rng (reN x).length λ (i : Nat) => gD (reN x) i
abbrev z_Re_127 (x : ReI) : Nat := (z_Re_126 x).length
abbrev z_Re_128 (x : ReI) : Prop := z_Re_127 x = (reN x).length
abbrev z_Re_129 (x : ReI) (i : Nat) : Gau := gD (z_Re_126 x) i
abbrev z_Re_130 (x : ReI) : Prop := ∀ (i : Nat), i < z_Re_127 x -> (z_Re_129 x i).st = (gD (reN x) i).st /\ (z_Re_129 x i).lo = (gD (reN x) i).lo /\ (z_Re_129 x i).hi = (gD (reN x) i).hi
abbrev z_Re_131 (x : ReI) : Prop := z_Re_127 x < (1073741824 : Nat)
abbrev z_Re_132 (x : ReI) (a : Nat) : GR := GR.mk (z_Re_126 x) (z_Re_118 x a)
abbrev z_Re_133 (x : ReI) : GBt := GBt.mk (z_Re_126 x) z_Re_109 (reA x)
abbrev z_Re_134 (x : ReI) : Bnd := flowB (z_Re_133 x)
abbrev z_Re_135 (x : ReI) : Rt := (z_Re_134 x).lo
abbrev z_Re_136 (x : ReI) : Rt := (z_Re_134 x).hi
abbrev z_Re_137 (x : ReI) : Int := pickV x.b (↑(reN x).length : Int)
abbrev z_Re_138 (x : ReI) : Int := pickV x.c (↑(reN x).length : Int)
abbrev z_Re_139 (x : ReI) : Prop := (reW x).b.length = (0 : Nat)
abbrev z_Re_140 (x : ReI) : Gau := gD (reN x) (z_Re_137 x).toNat
abbrev z_Re_141 (x : ReI) : Int := (z_Re_140 x).lo
abbrev z_Re_142 (x : ReI) : Gau := gD (reN x) (z_Re_138 x).toNat
abbrev z_Re_143 (x : ReI) : Int := (z_Re_142 x).lo
abbrev z_Re_144 (x : ReI) : List Int := rng (reW x).b.length λ (i : Nat) => gD (reW x).b i
abbrev z_Re_145 (x : ReI) : Nat := (z_Re_144 x).length
abbrev z_Re_146 (x : ReI) : Prop := z_Re_145 x = (reW x).b.length
abbrev z_Re_147 (x : ReI) : Prop := ∀ (i : Nat), i < z_Re_145 x -> gD (z_Re_144 x) i = gD (reW x).b i
abbrev z_Re_148 (x : ReI) : List Ln := rng (reW x).l.length λ (i : Nat) => gD (reW x).l i
abbrev z_Re_149 (x : ReI) : Nat := (z_Re_148 x).length
abbrev z_Re_150 (x : ReI) : Prop := z_Re_149 x = (reW x).l.length
abbrev z_Re_151 (x : ReI) (i : Nat) : Ln := gD (z_Re_148 x) i
abbrev z_Re_152 (x : ReI) : Prop := ∀ (i : Nat), i < z_Re_149 x -> (z_Re_151 x i).a0 = (gD (reW x).l i).a0 /\ (z_Re_151 x i).a1 = (gD (reW x).l i).a1 /\ (z_Re_151 x i).b0 = (gD (reW x).l i).b0 /\ (z_Re_151 x i).b1 = (gD (reW
 x).l i).b1
abbrev z_Re_153 (x : ReI) : Rtg := Rtg.mk (z_Re_144 x) (z_Re_148 x)
abbrev z_Re_154 (x : ReI) : Prop := z_Re_145 x < (1073741824 : Nat) /\ z_Re_149 x < (1073741824 : Nat)
abbrev z_Re_155 (x : ReI) : GR := GR.mk (z_Re_126 x) (z_Re_153 x)
abbrev z_Re_156 (x : ReI) : RtI := RtI.mk (z_Re_153 x) (reA x)
abbrev z_Re_157 (x : ReI) : Rt := atM (z_Re_156 x)
theorem vc_Re (x : ReI) : (V_Re x) = ((z_Re_1 x = x.bs.length /\ (∀ (i : Nat), i < z_Re_1 x -> z_Re_2 x i = gD x.bs i) /\ (10 : Int) = Int.ofNat (10 : Nat) /\ z_Re_4 x = z_Re_1 x /\ (∀ (i : Nat), i < z_Re_4 x -> gD (z_Re_3 x)
 i = z_Re_2 x i) /\ z_Re_5 /\ z_Re_5 /\ (StmB (0 : Int) (z_Re_6 x) /\ (1 : Int) <= (10 : Int) /\ (10 : Int) <= (100 : Int)) /\ True) /\ (z_Re_13 x /\ z_Re_18 x /\ z_Re_25 x /\ z_Re_26 x /\ z_Re_27 x /\ z_Re_28 x) /\ (z_Re_13 x /\ z_Re_18
 x /\ z_Re_25 x /\ z_Re_26 x /\ z_Re_27 x /\ false = false /\ z_Re_28 x) /\ (z_Re_13 x /\ z_Re_18 x /\ z_Re_25 x /\ z_Re_26 x /\ z_Re_27 x /\ true = true /\ z_Re_28 x) /\ bif bif bif bif z_Re_30 x then true else z_Re_30 x then true
 else z_Re_30 x then true else !sndM (Bnd.mk (z_Re_32 x) (z_Re_33 x)) then true = false else ((∃ (a : Nat), (x.b = x.b /\ x.c = x.c /\ (reG x).length = z_Re_9 x /\ (∀ (i : Nat), i < (reG x).length -> (gD (reG x) i).st =
 z_Re_15 x i /\ (gD (reG x) i).lo = z_Re_16 x i /\ (gD (reG x) i).hi = z_Re_17 x i) /\ reA x = pickV x.a (300 : Int) /\ z_Re_34 a /\ (reR x).b.length = z_Re_21 x /\ (∀ (i : Nat), i < (reR x).b.length -> gD (reR x).b i = z_Re_22
 x i) /\ (reR x).l.length = (z_Re_35 x).length /\ (∀ (i : Nat), i < (reR x).l.length -> (gD (reR x).l i).a0 = (z_Re_36 x i).a0 /\ (gD (reR x).l i).a1 = (z_Re_36 x i).a1 /\ (gD (reR x).l i).b0 = (z_Re_36 x i).b0 /\ (gD (reR x).l
 i).b1 = (z_Re_36 x i).b1) /\ (flowB (reT x)).lo.n = (z_Re_32 x).n /\ (flowB (reT x)).lo.d = (z_Re_32 x).d /\ (flowB (reT x)).hi.n = (z_Re_33 x).n /\ (flowB (reT x)).hi.d = (z_Re_33 x).d /\ (reX x).a0 = (z_Re_37 x).a0 /\ (reX
 x).a1 = (z_Re_37 x).a1 /\ (reX x).b0 = (z_Re_37 x).b0 /\ (reX x).b1 = (z_Re_37 x).b1 /\ (reY x).a0 = (z_Re_38 x).a0 /\ (reY x).a1 = (z_Re_38 x).a1 /\ (reY x).b0 = (z_Re_38 x).b0 /\ (reY x).b1 = (z_Re_38 x).b1) /\ z_Re_40 a x) /\
 ∀ (a : Nat), z_Re_40 a x -> (z_Re_42 a x = true -> z_Re_43 a /\ z_Re_41 a x) /\ bif bif z_Re_42 a x then decide (gD (reR x).b a <= reA x) else false then ∃ (a_2 : Nat), (x.b = x.b /\ x.c = x.c /\ z_Re_44 x /\ z_Re_45 x /\ reA x =
 reA x /\ z_Re_57 a_2 a x) /\ z_Re_40 a_2 x /\ z_Re_39 x a_2 < z_Re_39 x a else ∃ (a_2 : One), (x.b = x.b /\ x.c = x.c /\ z_Re_44 x /\ z_Re_45 x /\ reA x = reA x /\ (↑(reP x) : Int) = (↑a : Int) /\ z_Re_56 x) /\ True) /\ ∀ (a :
 One), True -> ((∃ (a : Nat), (x.b = x.b /\ x.c = x.c /\ z_Re_44 x /\ z_Re_45 x /\ reA x = reA x /\ z_Re_58 x /\ z_Re_59 /\ z_Re_60 /\ z_Re_34 a /\ z_Re_56 x) /\ z_Re_61 a x) /\ (∀ (a : Nat), z_Re_61 a x -> bif decide (z_Re_62 a x)
 then (((z_Re_64 x -> z_Re_65 a x) /\ z_Re_67 x /\ (z_Re_72 x a -> z_Re_65 a x) /\ (z_Re_72 x a -> z_Re_73 x)) /\ bif bif z_Re_69 x a then bif z_Re_70 x then true else decide ((gD (reG x) a).st < gD (reR x).b (reP x)) else false
 then (z_Re_65 a x /\ (True /\ ((0 : Nat) < (0 : Nat) -> (0 : Nat) = (3 : Nat))) /\ z_Re_77 /\ (true = true -> z_Re_75) /\ (1 : Nat) <= (9223372036854775807 : Nat) /\ (24 : Nat) <= (140737488355328 : Nat)) /\ ∃ (a_2 : GsK), (x.b =
 x.b /\ x.c = x.c /\ z_Re_44 x /\ z_Re_45 x /\ reA x = reA x /\ z_Re_58 x /\ z_Re_59 /\ z_Re_78 a_2 /\ (↑a_2.i : Int) = (↑a : Int) /\ z_Re_47 x /\ z_Re_48 x /\ z_Re_49 x /\ z_Re_50 x /\ z_Re_51 x /\ z_Re_52 x /\ z_Re_53 x /\ z_Re_54 x /\
 (reX x).a0 = (reX x).a0 /\ (reX x).a1 = (reX x).a1 /\ (reX x).b0 = (reX x).b0 /\ (reX x).b1 = (reX x).b1 /\ (reY x).a0 = (reY x).a0 /\ (reY x).a1 = (reY x).a1 /\ (reY x).b0 = (reY x).b0 /\ (reY x).b1 = (reY x).b1 /\ z_Re_78 a_2
 /\ ∀ (i : Nat), i < a_2.l.length -> (gD a_2.l i).st = (gD (reG x) a).st /\ (gD a_2.l i).lo = (gD (reG x) a).lo /\ (gD a_2.l i).hi = (gD (reG x) a).hi) /\ z_Re_82 a_2 x a else ∃ (a_2 : Nat), (x.b = x.b /\ x.c = x.c /\ z_Re_44 x
 /\ z_Re_45 x /\ reA x = reA x /\ z_Re_58 x /\ z_Re_59 /\ z_Re_60 /\ (↑a_2 : Int) = (↑a : Int) /\ z_Re_56 x) /\ z_Re_84 a_2 x a) /\ (∀ (a_2 : Nat), z_Re_84 a_2 x a -> ∃ (a_4 : Nat), z_Re_85 x a_4 a_2 /\ z_Re_61 a_4 x /\ z_Re_80 x a_4
 < z_Re_80 x a) /\ z_Re_90 x a /\ z_Re_90 x a else ∃ (a : One), (x.b = x.b /\ x.c = x.c /\ reA x = reA x /\ z_Re_91 x /\ z_Re_91 x /\ z_Re_55 x) /\ True) /\ ∀ (a : GsK), z_Re_89 a x -> bif decide (z_Re_92 a x) then (((z_Re_64 x ->
 z_Re_93 a x) /\ z_Re_67 x /\ (z_Re_95 x a -> z_Re_93 a x) /\ (z_Re_95 x a -> z_Re_73 x)) /\ bif bif z_Re_94 x a then bif z_Re_70 x then true else decide ((gD (reG x) a.i).st < gD (reR x).b (reP x)) else false then (z_Re_93 a x
 /\ (a.l.length = a.l.length /\ ((0 : Nat) < a.l.length -> z_Re_76)) /\ z_Re_77 /\ (false = true -> z_Re_75) /\ z_Re_96 a <= (9223372036854775807 : Nat) /\ z_Re_96 a * (24 : Nat) <= (140737488355328 : Nat)) /\ ∃ (a_2 : GsK), (x.b =
 x.b /\ x.c = x.c /\ z_Re_44 x /\ z_Re_45 x /\ reA x = reA x /\ z_Re_58 x /\ z_Re_59 /\ z_Re_97 a_2 a /\ z_Re_98 a_2 a /\ z_Re_47 x /\ z_Re_48 x /\ z_Re_49 x /\ z_Re_50 x /\ z_Re_51 x /\ z_Re_52 x /\ z_Re_53 x /\ z_Re_54 x /\ (reX x).a0 =
 (reX x).a0 /\ (reX x).a1 = (reX x).a1 /\ (reX x).b0 = (reX x).b0 /\ (reX x).b1 = (reX x).b1 /\ (reY x).a0 = (reY x).a0 /\ (reY x).a1 = (reY x).a1 /\ (reY x).b0 = (reY x).b0 /\ (reY x).b1 = (reY x).b1 /\ z_Re_97 a_2 a /\ ∀ (i :
 Nat), i < a_2.l.length -> ((gD a_2.l i).st = bif z_Re_99 i a then (gD a.l i).st else (gD (reG x) a.i).st) /\ ((gD a_2.l i).lo = bif z_Re_99 i a then (gD a.l i).lo else (gD (reG x) a.i).lo) /\ (gD a_2.l i).hi = bif z_Re_99 i
 a then (gD a.l i).hi else (gD (reG x) a.i).hi) /\ z_Re_100 a_2 x a else ∃ (a_2 : GsK), (x.b = x.b /\ x.c = x.c /\ z_Re_44 x /\ z_Re_45 x /\ reA x = reA x /\ z_Re_58 x /\ z_Re_59 /\ z_Re_86 a_2 a /\ z_Re_98 a_2 a /\ z_Re_87 x a_2
 a) /\ z_Re_100 a_2 x a) /\ (∀ (a_2 : Nat), a_2 < (reG x).length /\ z_Re_80 x a_2 = z_Re_79 x a /\ z_Re_83 x a_2 -> ∃ (a_4 : Nat), z_Re_85 x a_4 a_2 /\ z_Re_61 a_4 x /\ z_Re_80 x a_4 < z_Re_79 x a) /\ z_Re_101 x a /\ z_Re_101 x a
 else ∃ (a_2 : One), (x.b = x.b /\ x.c = x.c /\ reA x = reA x /\ (reN x).length = a.l.length /\ (0 : Nat) + a.l.length <= a.l.length /\ (∀ (j : Nat), j < (reN x).length -> (gD (reN x) j).st = (z_Re_102 a j).st /\ (gD (reN x)
 j).lo = (z_Re_102 a j).lo /\ (gD (reN x) j).hi = (z_Re_102 a j).hi) /\ z_Re_55 x) /\ True) /\ ∀ (a : One), True -> ((∃ (a : Nat), (x.b = x.b /\ x.c = x.c /\ reA x = reA x /\ z_Re_103 x /\ z_Re_104 x /\ z_Re_105 /\ (∀ (i : Nat), i <
 (2 : Nat) -> ((gD (reL x) i).a0 = bif z_Re_106 i then (reX x).a0 else (reY x).a0) /\ ((gD (reL x) i).a1 = bif z_Re_106 i then (reX x).a1 else (reY x).a1) /\ ((gD (reL x) i).b0 = bif z_Re_106 i then (reX x).b0 else (reY
 x).b0) /\ (gD (reL x) i).b1 = bif z_Re_106 i then (reX x).b1 else (reY x).b1) /\ z_Re_107 /\ z_Re_34 a /\ z_Re_108 x) /\ a.le (2 : Nat)) /\ ∀ (a : Nat), a.le (2 : Nat) -> bif decide ((↑a : Int) < (2 : Int)) then (z_Re_43 a /\
 (↑a : Int) < (↑(2 : Nat) : Int)) /\ (z_Re_111 /\ z_Re_111 /\ z_Re_114 x a /\ z_Re_116 x a /\ reA x = reA x /\ z_Re_117 x a) /\ bif bif bif atE (z_Re_119 x a) != (0 : Int) then true else bif (↑a : Int) == (0 : Int) then
 !(z_Re_121 x a == (flowB (reT x)).lo.n && (z_Re_122 x a == (flowB (reT x)).lo.d && true)) else false then true else bif (↑a : Int) == (1 : Int) then !(z_Re_121 x a == (flowB (reT x)).hi.n && (z_Re_122 x a == (flowB (reT
 x)).hi.d && true)) else false then true = false else bif z_Re_123 x then z_Re_125 x a else (z_Re_128 x /\ z_Re_130 x /\ z_Re_111 /\ z_Re_111 /\ z_Re_114 x a /\ z_Re_116 x a /\ z_Re_131 x /\ z_Re_117 x a) /\ bif bif pasE
 (z_Re_132 x a) != (0 : Int) then true else decide ((↑(pasM (z_Re_132 x a)).length : Int) > (0 : Int)) then true = false else z_Re_125 x a else ∃ (a : One), (x.b = x.b /\ x.c = x.c /\ reA x = reA x /\ z_Re_103 x /\ z_Re_104 x
 /\ z_Re_108 x) /\ True) /\ ∀ (a : One), True -> bif z_Re_123 x then true = true else (z_Re_128 x /\ z_Re_130 x /\ z_Re_59 /\ z_Re_59 /\ reA x = reA x /\ (z_Re_127 x < (4611686018427387904 : Nat) /\ (0 : Nat) < (4611686018427387904
 : Nat)) /\ True) /\ bif bif flowE (z_Re_133 x) != (0 : Int) then true else !((z_Re_135 x).n == (flowB (reT x)).lo.n && ((z_Re_135 x).d == (flowB (reT x)).lo.d && true) && ((z_Re_136 x).n == (flowB (reT x)).hi.n &&
 ((z_Re_136 x).d == (flowB (reT x)).hi.d && true) && true)) then true = false else (((0 : Int) <= z_Re_137 x /\ z_Re_137 x < (↑(reN x).length : Int)) /\ (0 : Int) <= z_Re_138 x /\ z_Re_138 x < (↑(reN x).length : Int)) /\ (∃ (a
 : One), (reA x = reA x /\ z_Re_103 x /\ z_Re_104 x /\ z_Re_51 x /\ z_Re_52 x /\ z_Re_53 x /\ z_Re_54 x /\ z_Re_139 x /\ z_Re_139 x /\ (reW x).l.length = (1 : Nat) /\ z_Re_74 /\ ∀ (j : Nat), j < (reW x).l.length -> (gD (reW x).l
 j).a0 = (z_Re_140 x).st /\ (gD (reW x).l j).a1 = IntKind.i64.wrap (z_Re_141 x + pickV x.b (IntKind.i64.wrap (IntKind.i64.wrap ((z_Re_140 x).hi - z_Re_141 x) + (1 : Int)))) /\ (gD (reW x).l j).b0 = (z_Re_142 x).st /\ (gD
 (reW x).l j).b1 = IntKind.i64.wrap (z_Re_143 x + pickV x.c (IntKind.i64.wrap (IntKind.i64.wrap ((z_Re_142 x).hi - z_Re_143 x) + (1 : Int))))) /\ True) /\ ∀ (a : One), True -> (z_Re_146 x /\ z_Re_147 x /\ z_Re_150 x /\ z_Re_152
 x /\ z_Re_145 x < (4611686018427387904 : Nat) /\ z_Re_149 x < (4611686018427387904 : Nat)) /\ bif checkRM (z_Re_153 x) != (0 : Int) then true = true else (z_Re_128 x /\ z_Re_130 x /\ z_Re_146 x /\ z_Re_147 x /\ z_Re_150 x /\
 z_Re_152 x /\ z_Re_131 x /\ z_Re_154 x) /\ (z_Re_146 x /\ z_Re_147 x /\ z_Re_150 x /\ z_Re_152 x /\ reA x = reA x /\ z_Re_154 x) /\ true = bif bif bif pasE (z_Re_155 x) == (0 : Int) then atE (z_Re_156 x) == (0 : Int) else false
 then bif decide ((↑(pasM (z_Re_155 x)).length : Int) > (0 : Int)) then true else bif !belM (z_Re_157 x) (flowB (reT x)).lo then !belM (flowB (reT x)).hi (z_Re_157 x) else false else false then true else false) := by
 kernel_rfl
theorem bnd_eta (b : Bnd) : Bnd.mk b.lo b.hi = b := rfl
theorem rtg_eta (r : Rtg) : Rtg.mk r.b r.l = r := rfl
theorem preM_of {bs : List Int} (h : okBy bs) {m : Int} (hm : 1 <= m /\ m <= 100) : preM ⟨⟨bs, 0, 0⟩, m⟩ := ⟨⟨⟨Int.le_refl _, Int.le_refl _⟩, ⟨Int.le_refl _, by show (0 : Int) < 251; omega⟩, h⟩, hm⟩
theorem inPt_iff {b : List Int} (hb : asc b) {k : Nat} (hk : k <= b.length) (h24 : b.length <= 24) (g : Gau) : inPt b k g = true ↔ (leC b g.st : Int) = k := by
 have h := leC_iff hb hk g.st
 have e : IntKind.i64.wrap ((k : Int) - 1) = (k : Int) - 1 := w64 (by omega) (by omega)
 have e2 : ((k : Int) - 1).toNat = k - 1 := by omega
 unfold inPt
 rw [e, e2]
 have a1 : (bif (k : Int) == 0 then true else decide (g.st >= gD b (k - 1))) = true ↔ (k = 0 ∨ gD b (k - 1) <= g.st) := by
  by_cases h0 : k = 0
  ·subst h0; simp
  ·rw [show ((k : Int) == 0) = false by simp; omega]; simp [h0]
 have a2 : (bif (k : Int) == (b.length : Int) then true else decide (g.st < gD b k)) = true ↔ (k = b.length ∨ g.st < gD b k) := by
  by_cases h0 : k = b.length
  ·rw [show ((k : Int) == (b.length : Int)) = true by rw [h0]; simp]; simp [h0]
  ·rw [show ((k : Int) == (b.length : Int)) = false by simp; omega]; simp [h0]
 constructor
 ·intro hc
  cases h1 : (bif (k : Int) == 0 then true else decide (g.st >= gD b (k - 1))) with
  | false => rw [h1] at hc; cases hc
  | true => rw [h1] at hc; have := h.2 ⟨a1.1 h1, a2.1 hc⟩; omega
 ·intro hc
  obtain ⟨b1, b2⟩ := h.1 (by omega)
  rw [a1.2 b1]; exact a2.2 b2
theorem reK_succ {x : ReI} {k : Nat} (h : k < (reG x).length) : reK x (k + 1) = if inPt (reR x).b (reP x) (gD (reG x) k) = true then reK x k ++ [gD (reG x) k] else reK x k := by
 unfold reK
 rw [take_snoc h, List.filter_append]
 by_cases hp : inPt (reR x).b (reP x) (gD (reG x) k) = true
 ·rw [if_pos hp, List.filter_cons_of_pos hp]; rfl
 ·rw [if_neg hp, List.filter_cons_of_neg hp]; simp
theorem reK_len (x : ReI) (k : Nat) : (reK x k).length <= (reG x).length := by
 unfold reK
 exact Nat.le_trans (List.length_filter_le _ _) (by rw [List.length_take]; omega)
structure ReF (x : ReI) : Prop where
 thru : Thru (reG x) (reR x).b
 few : (reG x).length <= 10
 at_ : 0 <= reA x /\ reA x <= 2000
 part : reP x = leC (reR x).b (reA x)
 ins : reN x = partS (reG x) (reR x).b (leC (reR x).b (reA x))
theorem re_facts (x : ReI) (hb : okBy x.bs) : ReF x /\ preM (reM x) := by
 have hpre : preM (reM x) := preM_of hb (by omega)
 obtain ⟨hF, hlen⟩ := made_fits hpre
 have hlen : (reG x).length <= 10 := hlen
 have hT : Thru (reG x) (reR x).b := hF.thru (by show (reG x).length <= 24; omega)
 have hA := pick_in x.a (n := 300) (by omega)
 have hP : reP x = leC (reR x).b (reA x) := ptM_eq hT.asc
 refine ⟨⟨hT, hlen, by unfold reA; omega, hP, ?_⟩, hpre⟩
 unfold reN reK partS insM
 rw [List.take_length]
 refine List.filter_congr λ g hg => ?_
 have h1 := inPt_iff hT.asc (k := reP x) (by rw [hP]; exact leC_le _ _) hT.few g
 rw [hP] at h1 ⊢
 rw [Bool.eq_iff_iff, h1]
 exact beq_iff_eq.symm
theorem re_inv (x : ReI) (hf : ReF x) : (∀ (m i : Nat), i < (reG x).length /\ (reG x).length - i = m /\ reK x (i + 1) = [] -> ∃ j : Nat, (j : Int) = IntKind.i64.wrap ((i : Int) + 1) /\ (j <= (reG x).length /\ reK x j = []) /\ (reG x).length - j < m) /\ ∀ (m : Nat) (y : GsK), y.i < (reG x).length /\ (reG x).length - y.i = m /\ y.l = reK x (y.i + 1) -> ∃ z : GsK, (z.l.length = y.l.length /\ (z.i : Int) = IntKind.i64.wrap ((y.i : Int) + 1) /\ z.l.length = y.l.length /\ ∀ (i : Nat), i < z.l.length -> (gD z.l i).st = (gD y.l i).st /\ (gD z.l i).lo = (gD y.l i).lo /\ (gD z.l i).hi = (gD y.l i).hi) /\ (z.i <= (reG x).length /\ z.l = reK x z.i) /\ (reG x).length - z.i < m := by
 have := hf.few
 refine ⟨λ m i h => ⟨i + 1, (wsucc (by omega)).symm, ⟨by omega, h.2.2⟩, by omega⟩, λ m y h => ⟨⟨y.i + 1, y.l⟩, ⟨rfl, (wsucc (by omega)).symm, rfl, λ _ _ => ⟨rfl, rfl, rfl⟩⟩, ⟨by show y.i + 1 <= _; omega, h.2.2⟩, by show (reG x).length - (y.i + 1) < m; omega⟩⟩
theorem re_two (x : ReI) (hf : ReF x) : ∀ k, k < 2 -> okL (gD (reL x) k) /\ (rlL (gD (reL x) k)).passes (reN x) /\ flowM (gD (reL x) k) (reA x) = (bif decide (k = 0) then (flowB (reT x)).lo else (flowB (reT x)).hi) := λ k hk => by
 have eT : GBt.mk (reG x) (reR x).b (reA x) = reT x := rfl
 have h1 := hf.thru.reach hf.at_ false
 have h2 := hf.thru.reach hf.at_ true
 rw [eT, <- hf.ins] at h1 h2
 have e1 : rchL ⟨reT x, false⟩ = reX x := rfl
 have e2 : rchL ⟨reT x, true⟩ = reY x := rfl
 rw [e1] at h1; rw [e2] at h2
 match k, hk with
 | 0, _ =>
  have e : gD (reL x) 0 = reX x := rfl
  rw [e]; exact h1
 | 1, _ =>
  have e : gD (reL x) 1 = reY x := rfl
  rw [e]; exact h2
theorem re_flow (x : ReI) (hf : ReF x) : flowE (reT x) = 0 /\ okR (flowB (reT x)).lo /\ okR (flowB (reT x)).hi /\ sndM (flowB (reT x)) = true /\ flowB (reT x) = bdS (reN x) (reA x) := by
 have eT : GBt.mk (reG x) (reR x).b (reA x) = reT x := rfl
 have h1 := hf.thru.sound hf.at_
 have h2 := (hf.thru.flow hf.at_).2
 rw [eT] at h1 h2
 rw [<- hf.ins] at h2
 exact ⟨h1.1, h1.2.1, h1.2.2.1, h1.2.2.2, h2⟩
theorem re_alone (x : ReI) (hf : ReF x) (h : (reN x).length ≠ 0) : checkG (reN x) = 0 /\ flowE ⟨reN x, [], reA x⟩ = 0 /\ flowB ⟨reN x, [], reA x⟩ = flowB (reT x) := by
 have ho : ∀ g ∈ reN x, okG g := by rw [hf.ins]; exact part_ok hf.thru.ok
 have hNl : (reN x).length <= 10 := Nat.le_trans (reK_len x _) hf.few
 have hc : checkG (reN x) = 0 := check_zero ⟨by omega, by omega⟩ ho
 obtain ⟨o1, o2, _⟩ := re_two x hf 0 (by omega)
 obtain ⟨a1, a2⟩ := (rtOk_one hc o1 o2).thru.flow hf.at_
 refine ⟨hc, a1, ?_⟩
 have e : (leC ([] : List Int) (reA x) : Int) = ((0 : Nat) : Int) := rfl
 rw [e, partS_nil] at a2
 rw [(re_flow x hf).2.2.2.2]; exact a2
theorem re_last (x : ReI) (hf : ReF x) (h : (reN x).length ≠ 0) (hz : checkRM (reW x) = 0) : pasE ⟨reN x, reW x⟩ = 0 /\ atE ⟨reW x, reA x⟩ = 0 /\ ((pasM ⟨reN x, reW x⟩).length = 0 -> belM (atM ⟨reW x, reA x⟩) (flowB (reT x)).lo = false /\ belM (flowB (reT x)).hi (atM ⟨reW x, reA x⟩) = false) := by
 have oz : okL (reZ x) := (checkR_ok hz).1.2.2.1 _ (List.mem_singleton.2 rfl)
 have eW : reW x = ⟨[], [reZ x]⟩ := rfl
 obtain ⟨a1, a2⟩ := at_one oz hf.at_
 have ho : ∀ g ∈ reN x, okG g := by rw [hf.ins]; exact part_ok hf.thru.ok
 obtain ⟨f1, f2, f3, f4, f5⟩ := re_flow x hf
 have e : pasE ⟨reN x, reW x⟩ = 0 := by
  have e1 : pasE ⟨reN x, reW x⟩ = bif checkG (reN x) == 0 then checkRM (reW x) else checkG (reN x) := rfl
  rw [e1, (re_alone x hf h).1, hz]; rfl
 rw [eW] at e ⊢
 refine ⟨e, a1, λ hp => ?_⟩
 have pz : (rlL (reZ x)).passes (reN x) := one_pass oz e (List.eq_nil_of_length_eq_zero hp)
 have b1 := bdS_lo ho hf.at_ (rlL_ok oz) pz
 have b2 := bdS_hi ho hf.at_ (rlL_ok oz) pz
 rw [<- f5] at b1 b2
 rw [a2]
 exact ⟨(bel_iff (flow_okR oz) f2).2 ((le_flow oz f2.1.1).2 b1), (bel_iff f3 (flow_okR oz)).2 ((flow_le oz f3.1.1).2 b2)⟩
set_option maxHeartbeats 2000000 in
theorem p_Re (x : ReI) (hb : okBy x.bs) : V_Re x := by
 rw [vc_Re]; delta z_Re_0 z_Re_1 z_Re_2 z_Re_3 z_Re_4 z_Re_5 z_Re_6 z_Re_7 z_Re_8 z_Re_9 z_Re_10 z_Re_11 z_Re_12 z_Re_13 z_Re_14 z_Re_15 z_Re_16 z_Re_17 z_Re_18 z_Re_19 z_Re_20 z_Re_21 z_Re_22 z_Re_23 z_Re_24 z_Re_25 z_Re_26 z_Re_27 z_Re_28 z_Re_29 z_Re_30 z_Re_31 z_Re_32 z_Re_33 z_Re_34 z_Re_35 z_Re_36 z_Re_37 z_Re_38 z_Re_39 z_Re_40 z_Re_41 z_Re_42 z_Re_43 z_Re_44 z_Re_45 z_Re_46 z_Re_47 z_Re_48 z_Re_49 z_Re_50 z_Re_51 z_Re_52 z_Re_53 z_Re_54 z_Re_55 z_Re_56 z_Re_57 z_Re_58 z_Re_59 z_Re_60 z_Re_61 z_Re_62 z_Re_63 z_Re_64 z_Re_65 z_Re_66 z_Re_67 z_Re_68 z_Re_69 z_Re_70 z_Re_71 z_Re_72 z_Re_73 z_Re_74 z_Re_75 z_Re_76 z_Re_77 z_Re_78 z_Re_79 z_Re_80 z_Re_81 z_Re_82 z_Re_83 z_Re_84 z_Re_85 z_Re_86 z_Re_87 z_Re_88 z_Re_89 z_Re_90 z_Re_91 z_Re_92 z_Re_93 z_Re_94 z_Re_95 z_Re_96 z_Re_97 z_Re_98 z_Re_99 z_Re_100 z_Re_101 z_Re_102 z_Re_103 z_Re_104 z_Re_105 z_Re_106 z_Re_107 z_Re_108 z_Re_109 z_Re_110 z_Re_111 z_Re_112 z_Re_113 z_Re_114 z_Re_115 z_Re_116 z_Re_117 z_Re_118 z_Re_119 z_Re_120 z_Re_121 z_Re_122 z_Re_123 z_Re_124 z_Re_125 z_Re_126 z_Re_127 z_Re_128 z_Re_129 z_Re_130 z_Re_131 z_Re_132 z_Re_133 z_Re_134 z_Re_135 z_Re_136 z_Re_137 z_Re_138 z_Re_139 z_Re_140 z_Re_141 z_Re_142 z_Re_143 z_Re_144 z_Re_145 z_Re_146 z_Re_147 z_Re_148 z_Re_149 z_Re_150 z_Re_151 z_Re_152 z_Re_153 z_Re_154 z_Re_155 z_Re_156 z_Re_157; simp only [condP, eq_self, implies_true, and_self, true_and, and_true, true_implies, forall_const, decide_eq_true_eq, decide_eq_false_iff_not, Int.toNat_natCast, dSpan_eSpan, dInt_eInt, dGau_e, dPt_e, dLn_e, dRt_e, Nat.zero_add, Int.zero_sub, Nat.le_eq, Nat.succ_eq_add_one, Nat.add_one_le_iff, Bool.not_eq_true', Bool.not_eq_false', rng_length, dSpan_mk, rng_getD, stm_eta, Int.ofNat_lt, show MkI.mk ⟨x.bs, 0, 0⟩ 10 = reM x from rfl, show mdG (reM x) = reG x from rfl, show mdR (reM x) = reR x from rfl, show pickV x.a 300 = reA x from rfl, show GBt.mk (reG x) (reR x).b (reA x) = reT x from rfl, show rchL ⟨reT x, false⟩ = reX x from rfl, show rchL ⟨reT x, true⟩ = reY x from rfl, show (rng 0 λ _ => (default : Int)) = [] from rfl, show ∀ y : Ln, (rng 1 λ _ => y) = [y] from λ _ => rfl, bnd_eta, rtg_eta]
 obtain ⟨hf, hpre⟩ := re_facts x hb
 obtain ⟨cn, co⟩ := re_inv x hf
 obtain ⟨f1, f2, f3, f4, f5⟩ := re_flow x hf
 have oL := re_two x hf
 have hal := re_alone x hf
 have hla := re_last x hf
 have hbl := hf.thru.few
 have hlen := hf.few
 have tA := hf.at_
 have hNl : (reN x).length <= 10 := Nat.le_trans (reK_len x _) hf.few
 have hple : reP x <= (reR x).b.length := by rw [hf.part]; exact leC_le _ _
 clear hf
 have pc : ∀ {c : Bool}, (c && !((reP x : Int) == ((reR x).b.length : Int))) = true -> (0 : Int) <= (reP x : Int) /\ reP x < (reR x).b.length := λ {c} h => by
  rw [Bool.and_eq_true] at h
  have h2 : ¬(reP x : Int) = ((reR x).b.length : Int) := by simpa using h.2
  omega
 have pw : ((reP x : Int) == 0) = false -> (0 : Int) <= IntKind.i64.wrap ((reP x : Int) - 1) /\ IntKind.i64.wrap ((reP x : Int) - 1) < ((reR x).b.length : Int) := λ h => by
  have h : ¬(reP x : Int) = 0 := by simpa using h
  rw [w64 (by omega) (by omega)]; omega
 rw [f1, f4]
 refine ⟨⟨rfl, hpre⟩, ⟨by omega, by omega⟩, ⟨by omega, by omega⟩, ⟨by omega, by omega⟩, λ hc => (by cases hc), λ _ => ⟨⟨⟨0, rfl, Nat.zero_le _, rfl⟩, λ k ⟨k1, k2⟩ => ⟨λ h => ⟨by omega, by omega⟩, λ hc => ⟨k + 1, (wsucc (by omega)).symm, ⟨(pt_go hc).1, k2.trans (pt_go hc).2⟩, by have := (pt_go hc).1; omega⟩, λ hc => ⟨default, by rw [k2, pt_stop hc k1]⟩⟩⟩, ⟨⟨0, rfl, Nat.zero_le _, rfl⟩, λ k ⟨k1, k2⟩ => ?_, λ y ⟨y1, y2⟩ => ?_⟩, ⟨⟨0, ⟨λ i hi => ?_, rfl⟩, Nat.zero_le _⟩, λ k hk => ⟨λ hlt => ?_, λ _ => ⟨default, trivial⟩⟩⟩, λ h0 => ?_⟩⟩
 ·refine ⟨λ hlt => ⟨⟨⟨λ _ => ⟨by omega, by omega⟩, pw, λ _ => ⟨by omega, by omega⟩, pc⟩, λ hc => ⟨⟨⟨by omega, by omega⟩, by omega, by omega, by omega, by omega, by omega⟩, ⟨k, [gD (reG x) k]⟩, ⟨rfl, rfl, rfl, λ i hi => ?_⟩, by show k < _; omega, rfl, ?_⟩, λ hc => ⟨k, rfl, by omega, rfl, ?_⟩⟩, cn _, co _⟩, λ hge => ⟨default, ?_⟩⟩
  ·rw [show i = 0 by have h1 : i < 1 := hi; omega]; exact ⟨rfl, rfl, rfl⟩
  ·have hc : inPt (reR x).b (reP x) (gD (reG x) k) = true := hc
   show [gD (reG x) k] = reK x (k + 1); rw [reK_succ (by omega), if_pos hc, k2]; rfl
  ·rw [reK_succ (by omega), if_neg (λ h => by rw [show inPt (reR x).b (reP x) (gD (reG x) k) = false from hc] at h; cases h)]; exact k2
  ·have e : reN x = reK x k := by unfold reN; rw [show (reG x).length = k by omega]
   rw [e, k2]; rfl
 ·have hyl := reK_len x y.i
  rw [<- y2] at hyl
  refine ⟨λ hlt => ⟨⟨⟨λ _ => ⟨by omega, by omega⟩, pw, λ _ => ⟨by omega, by omega⟩, pc⟩, λ hc => ⟨⟨⟨by omega, by omega⟩, by omega, λ h => (by cases h), by omega, by omega⟩, ⟨y.i, y.l ++ [gD (reG x) y.i]⟩, ⟨by simp, rfl, by simp, snocG _ _⟩, by show y.i < _; omega, rfl, ?_⟩, λ hc => ⟨y, ⟨rfl, rfl, rfl, λ _ _ => ⟨rfl, rfl, rfl⟩⟩, by omega, rfl, ?_⟩⟩, cn _, co _⟩, λ hge => ⟨default, ?_⟩⟩
  ·have hc : inPt (reR x).b (reP x) (gD (reG x) y.i) = true := hc
   show y.l ++ [gD (reG x) y.i] = reK x (y.i + 1); rw [reK_succ (by omega), if_pos hc, y2]
  ·rw [reK_succ (by omega), if_neg (λ h => by rw [show inPt (reR x).b (reP x) (gD (reG x) y.i) = false from hc] at h; cases h)]; exact y2
  ·have e : reN x = y.l := by rw [y2]; unfold reN; rw [show (reG x).length = y.i by omega]
   rw [e]; exact ⟨rfl, Nat.le_refl _, λ _ _ => ⟨rfl, rfl, rfl⟩⟩
 ·match i, hi with
  | 0, _ => exact ⟨rfl, rfl, rfl, rfl⟩
  | 1, _ => exact ⟨rfl, rfl, rfl, rfl⟩
 ·have hlt : k < 2 := by omega
  obtain ⟨ok, pk, ek⟩ := oL k hlt
  obtain ⟨a1, a2⟩ := at_one ok tA
  have hk2 : k = 0 ∨ k = 1 := by omega
  rw [a1, a2, ek]
  refine ⟨⟨by omega, by omega⟩, ⟨rfl, rfl, rfl, oneL _, by show 0 < 1073741824; omega, by show 1 < 1073741824; omega⟩, λ hc => ?_, λ _ => ⟨λ _ => ⟨k + 1, (wsucc (by omega)).symm, by omega, by omega⟩, λ h1 => ?_⟩⟩
  ·exfalso
   rcases hk2 with rfl | rfl <;> simp at hc
  ·have hne : (reN x).length ≠ 0 := by simpa using h1
   obtain ⟨b1, b2⟩ := (rtOk_one (hal hne).1 ok pk).passes
   rw [b1, b2]
   exact ⟨⟨rfl, rfl, rfl, oneL _, by omega, by show 0 < 1073741824; omega, by show 1 < 1073741824; omega⟩, λ hc => (by simp at hc), λ _ => ⟨k + 1, (wsucc (by omega)).symm, by omega, by omega⟩⟩
 ·have hne : (reN x).length ≠ 0 := by simpa using h0
  obtain ⟨c0, c1, c2⟩ := hal hne
  have p1 := pick_in x.b (n := (reN x).length) (by omega)
  have p2 := pick_in x.c (n := (reN x).length) (by omega)
  rw [c1, c2]
  refine ⟨⟨by omega, by omega⟩, λ hc => (by simp at hc), λ _ => ⟨⟨p1, p2⟩, ⟨default, rfl, rfl, rfl, by omega, λ j hj => ?_⟩, ⟨by show 0 < _; omega, by show 1 < _; omega⟩, λ hz => ?_⟩⟩
  ·have e : gD (reW x).l j = reZ x := by rw [show j = 0 by have h1 : j < 1 := hj; omega]; rfl
   rw [e]
   unfold reZ reGp wr
   simp only [eq_self, and_self]
  ·obtain ⟨e1, e2, e3⟩ := hla hne (by simpa using hz)
   refine ⟨⟨by omega, by show 0 < _; omega, by show 1 < _; omega⟩, ⟨by show 0 < _; omega, by show 1 < _; omega⟩, ?_⟩
   rw [e1, e2]
   by_cases hp : (pasM ⟨reN x, reW x⟩).length = 0
   ·obtain ⟨d1, d2⟩ := e3 hp
    rw [d1, d2]
    cases decide (((pasM ⟨reN x, reW x⟩).length : Int) > 0) <;> rfl
   ·rw [decide_eq_true (show ((pasM ⟨reN x, reW x⟩).length : Int) > 0 by omega)]; rfl
theorem ok_Re (x : ReI) (hb : okBy x.bs) : FnT Try.prog n_lReached (xRe x) (heapOf []) (.bool true) [] := fnt (A := A_Re x) (ren := []) (fz := []) fn_lReached (by kernel_rfl) (gok_cons ok_New (gok_cons ok_Made (gok_cons ok_Pick (gok_cons ok_Flow (gok_cons ok_Reach (gok_cons ok_Passes (gok_cons ok_At (gok_cons ok_CheckR (gok_cons ok_sound (gok_cons ok_below (gok_cons ok_awake gok_nil))))))))))) (p_Re x hb)
end Go.Bal
