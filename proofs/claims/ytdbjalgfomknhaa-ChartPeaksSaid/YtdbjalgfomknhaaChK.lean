/- Package chart: the fewest stops. -/
import Derived.Test.YtdbjalgfomknhaaChJ
import Derived.Test.YtdbjalgfomknhaaChS
set_option linter.unusedVariables false
set_option linter.unusedSimpArgs false
namespace Go.Bal
open Go Go.Sym Go.Proofs
def idL (n : Nat) : List Int := rng n λ i => (i : Int)
def ordL (c : Cht) : List Int := stM (keyG c) (idL c.ns.length)
structure FwS where
 la : Int
 q : List Int
 r : List Pr
 deriving Inhabited
def miA (c : Cht) (a : Int) : Int := (gD c.ns a.toNat).mi
def fwP (c : Cht) (la b a : Int) : Bool := bif decide (miA c a > la) then lateM c ⟨a, b⟩ else false
def fwN (c : Cht) (s : FwS) (b : Int) : Option Int -> FwS
 | none => s
 | some a => ⟨wr (miA c b - 1), s.q ++ [wr (miA c b - 1)], s.r ++ [⟨a, b⟩]⟩
def fwK (c : Cht) : Nat -> FwS
 | 0 => ⟨-1, [], []⟩
 | k + 1 => fwN c (fwK c k) (gD (ordL c) k) (((ordL c).take k).find? (fwP c (fwK c k).la (gD (ordL c) k)))
def fwE (c : Cht) : FwS := fwK c c.ns.length
def fwW (c : Cht) : Dk := stD ⟨newD c, (fwE c).q⟩
structure FwR where
 q : List Int
 r : List Pr
 e : Int
def nilI : List Int := []
def nilP : List Pr := []
def fwO (c : Cht) : FwR := bif (timesV (fwW c)).2 then ⟨(fwE c).q, (fwE c).r, 0⟩ else ⟨nilI, nilP, 6⟩
def fewV (c : Cht) : FwR := bif checkC c == 0 then fwO c else ⟨nilI, nilP, checkC c⟩
def C_few : Ctr := { α := Cht, xs := λ c => [.d (eCht c)], val := λ c => .tup [.d (eIntsL (fewV c).q), .d (ePrs (fewV c).r), .int (fewV c).e], keep := λ _ => [], pre := λ c => [(c.ms.length < 4611686018427387904 /\ c.ns.length < 4611686018427387904) /\ (checkC c = 0 -> c.ns.length <= 12)] }
def fwH (c : Cht) : List (Nat × HCell) := [(201, .live (chB c)), (203, .live (dkB (newD c) 204)), (204, .live (dkM (newD c)))]
def fw6S (c : Cht) (k : Nat) : List (Nat × AVal) := [(1, .bptr 201 0), (5, .bptr 203 0), (29, .int c.ns.length), (30, .int k)]
def fwR : List (Nat × Nat) := [(201, 1000), (203, 2016), (204, 2017)]
def fw6n (c : Cht) : Shape := { α := One, dflt := default, T := λ _ => ⟨(7, .d nilL) :: fw6S c 0, fwH c⟩, inv := λ _ => True, meas := λ _ => 60, first := fwR }
def fw6o (c : Cht) : Shape := { α := Nat, dflt := 0, T := λ k => ⟨(7, .own 202 1 0 k) :: fw6S c k, fwH c ++ [(202, .live (.row 1 k λ i => eInt i))]⟩, inv := λ k => 1 <= k /\ k <= c.ns.length, meas := λ k => 50 - k, again := [(202, 9048)] }
def fwB (c : Cht) : List (Nat × AVal) := [(1, .bptr 201 0), (5, .bptr 203 0), (7, .d (eIntsL (ordL c)))]
def fw11 (c : Cht) (z : List Nat) : Shape := { α := One, dflt := default, T := λ _ => ⟨fwB c, fwH c⟩, inv := λ _ => True, meas := λ _ => 0, ffz := z }
def fwT (c : Cht) (k : Nat) : List (Nat × AVal) := fwB c ++ [(11, .int (fwK c k).la), (41, .d (eIntsL (ordL c))), (42, .int c.ns.length), (43, .int k)]
def fwY (c : Cht) (k : Nat) : List (Nat × HCell) := fwH c ++ [(301, .live (.row 1 (fwK c k).q.length λ i => eInt (gD (fwK c k).q i))), (302, .live (.row 2 (fwK c k).r.length λ i => ePr (gD (fwK c k).r i)))]
def fwNil : List (Nat × AVal) := [(9, .d nilL), (10, .d nilL)]
def fwOwn (c : Cht) (k : Nat) : List (Nat × AVal) := [(9, .own 301 1 0 (fwK c k).q.length), (10, .own 302 2 0 (fwK c k).r.length)]
def fw15n (c : Cht) : Shape := { α := Nat, dflt := 0, T := λ k => ⟨fwNil ++ fwT c k, fwH c⟩, inv := λ k => k <= c.ns.length /\ (fwK c k).q = [], meas := λ k => c.ns.length - k, tag := [0] }
def fw15o (c : Cht) : Shape := { α := Nat, dflt := 0, T := λ k => ⟨fwOwn c k ++ fwT c k, fwY c k⟩, inv := λ k => k <= c.ns.length /\ 1 <= (fwK c k).q.length, meas := λ k => c.ns.length - k, tag := [1] }
def fwJ (c : Cht) (k j : Nat) : List (Nat × AVal) := [(13, .int (gD (ordL c) k)), (50, .d (eIntsL ((ordL c).take k))), (51, .int k), (52, .int j)]
def fw18n (c : Cht) (m : Nat) : Shape := { α := IJ, dflt := default, T := λ s => ⟨fwJ c s.i s.j ++ (fwNil ++ fwT c s.i), fwH c⟩, inv := λ s => (s.i < c.ns.length /\ c.ns.length - s.i = m /\ s.j <= s.i /\ ∀ t, t < s.j -> fwP c (fwK c s.i).la (gD (ordL c) s.i) (gD (ordL c) t) = false) /\ (fwK c s.i).q = [], meas := λ s => c.ns.length - s.j }
def fw18o (c : Cht) (m : Nat) : Shape := { α := IJ, dflt := default, T := λ s => ⟨fwJ c s.i s.j ++ (fwOwn c s.i ++ fwT c s.i), fwY c s.i⟩, inv := λ s => (s.i < c.ns.length /\ c.ns.length - s.i = m /\ s.j <= s.i /\ ∀ t, t < s.j -> fwP c (fwK c s.i).la (gD (ordL c) s.i) (gD (ordL c) t) = false) /\ 1 <= (fwK c s.i).q.length, meas := λ s => c.ns.length - s.j }
def fwT2 (c : Cht) (k : Nat) : List (Nat × AVal) := fwB c ++ [(11, .int (fwK c (k + 1)).la), (41, .d (eIntsL (ordL c))), (42, .int c.ns.length), (43, .int k)]
def fw25n (c : Cht) (m : Nat) : Shape := { α := Nat, dflt := 0, T := λ k => ⟨fwNil ++ fwT2 c k, fwH c⟩, inv := λ k => k < c.ns.length /\ c.ns.length - k = m /\ (fwK c (k + 1)).q = [], meas := λ _ => 0 }
def fw25o (c : Cht) (m : Nat) (f : List (Nat × Nat)) : Shape := { α := Nat, dflt := 0, T := λ k => ⟨fwOwn c (k + 1) ++ fwT2 c k, fwY c (k + 1)⟩, inv := λ k => k < c.ns.length /\ c.ns.length - k = m /\ 1 <= (fwK c (k + 1)).q.length, meas := λ _ => 0, first := f }
def fw26 (c : Cht) (z : List Nat) : Shape := { α := One, dflt := default, T := λ _ => ⟨[(5, .bptr 203 0), (9, .d (eIntsL (fwE c).q)), (10, .d (ePrs (fwE c).r))], [(203, .live (dkB (newD c) 204)), (204, .live (dkM (newD c)))]⟩, inv := λ _ => True, meas := λ _ => 0, ffz := z }
def fw10 (c : Cht) : Shape := { α := One, dflt := default, T := λ _ => ⟨[(1, .bptr 201 0), (5, .bptr 203 0), (7, .own 202 1 0 c.ns.length)], fwH c ++ [(202, .live (.row 1 c.ns.length λ i => eInt i))]⟩, inv := λ _ => 1 <= c.ns.length, meas := λ _ => 0 }
def A_few (c : Cht) : Ann := { ann 101 [(n_opened, C_open.spec dC1), (n_sortI, C_sort.spec dGLt), (n_late, C_late.spec dDkP), (n_stop, C_stop.spec dDkZ), (n_times, C_times.spec dDk1)] with mt := λ id => id == 8 || id == 23, loops := λ id => if id = 6 then some [fw6n c, fw6o c] else if id = 15 then some [fw15n c, fw15o c] else none, inner := λ gs id => if id = 18 then (if gs.getD 1 0 = 0 then some [fw18n c (gs.getD 0 0)] else some [fw18o c (gs.getD 0 0)]) else none, cut := λ id => if id = 10 then some [fw10 c] else if id = 11 then some [fw11 c [202]] else if id = 26 then some [fw26 c [], fw26 c [301, 302]] else none, cutIn := λ gs id => if id = 25 then (if gs.getD 1 0 = 0 then some [fw25n c (gs.getD 0 0), fw25o c (gs.getD 0 0) [(301, 24048), (302, 24112)]] else some [fw25o c (gs.getD 0 0) [(301, 24048), (302, 24112)], fw25o c (gs.getD 0 0) []]) else none }
def V_few (c : Cht) : Prop := fnVC Try.prog (A_few c) F_fewest (bodyOf F_fewest) [.d (eCht c)] (heapOf []) (.tup [.d (eIntsL (fwO c).q), .d (ePrs (fwO c).r), .int (fwO c).e]) [] [] []
abbrev z_few_0 (c : Cht) : List Mk := rng c.ms.length λ (i : Nat) => gD c.ms i
abbrev z_few_1 (c : Cht) : Nat := (z_few_0 c).length
abbrev z_few_2 (c : Cht) : Prop := z_few_1 c = c.ms.length
abbrev z_few_3 (c : Cht) (i : Nat) : Mk := gD (z_few_0 c) i
abbrev z_few_4 (c : Cht) (i : Nat) : Int := (z_few_3 c i).pl
abbrev z_few_5 (c : Cht) (i : Nat) : Int := (z_few_3 c i).ht
abbrev z_few_6 (c : Cht) : Prop := ∀ (i : Nat), i < z_few_1 c -> z_few_4 c i = (gD c.ms i).pl /\ z_few_5 c i = (gD c.ms i).ht
abbrev z_few_7 (c : Cht) : List Nt := rng c.ns.length λ (i : Nat) => gD c.ns i
abbrev z_few_8 (c : Cht) : Nat := (z_few_7 c).length
abbrev z_few_9 (c : Cht) : Prop := z_few_8 c = c.ns.length
abbrev z_few_10 (c : Cht) (i : Nat) : Nt := gD (z_few_7 c) i
abbrev z_few_11 (c : Cht) (i : Nat) : Int := (z_few_10 c i).mi
abbrev z_few_12 (c : Cht) (i : Nat) : Span := (z_few_10 c i).t
abbrev z_few_13 (c : Cht) (i : Nat) : Int := (z_few_12 c i).lo
abbrev z_few_14 (c : Cht) (i : Nat) : Int := (z_few_12 c i).hi
abbrev z_few_15 (c : Cht) (i : Nat) : Span := (z_few_10 c i).s
abbrev z_few_16 (c : Cht) (i : Nat) : Int := (z_few_15 c i).lo
abbrev z_few_17 (c : Cht) (i : Nat) : Int := (z_few_15 c i).hi
abbrev z_few_18 (c : Cht) : Prop := ∀ (i : Nat), i < z_few_8 c -> z_few_11 c i = (gD c.ns i).mi /\ z_few_13 c i = (gD c.ns i).t.lo /\ z_few_14 c i = (gD c.ns i).t.hi /\ z_few_16 c i = (gD c.ns i).s.lo /\ z_few_17 c i = (gD
 c.ns i).s.hi
abbrev z_few_19 (c : Cht) : Cht := Cht.mk c.p c.base c.scale c.off (z_few_0 c) (z_few_7 c)
abbrev z_few_20 : Prop := (0 : Nat) = (0 : Nat)
abbrev z_few_21 : Prop := ∀ (i : Nat), i < (0 : Nat) -> false = false
abbrev z_few_22 (c : Cht) : Prop := (↑c.ns.length : Int) = (↑c.ns.length : Int)
abbrev z_few_23 (c : Cht) : Prop := c.ms.length = c.ms.length
abbrev z_few_24 (c : Cht) : Prop := ∀ (i : Nat), i < c.ms.length -> (gD c.ms i).pl = (gD c.ms i).pl /\ (gD c.ms i).ht = (gD c.ms i).ht
abbrev z_few_25 (c : Cht) : Prop := c.ns.length = c.ns.length
abbrev z_few_26 (c : Cht) : Prop := ∀ (i : Nat), i < c.ns.length -> (gD c.ns i).mi = (gD c.ns i).mi /\ (gD c.ns i).t.lo = (gD c.ns i).t.lo /\ (gD c.ns i).t.hi = (gD c.ns i).t.hi /\ (gD c.ns i).s.lo = (gD c.ns i).s.lo /\ (gD
 c.ns i).s.hi = (gD c.ns i).s.hi
abbrev z_few_27 (c : Cht) : Dk := newD (z_few_19 c)
abbrev z_few_28 (c : Cht) : Cht := (z_few_27 c).c
abbrev z_few_29 (c : Cht) : Span := (z_few_28 c).p
abbrev z_few_30 (c : Cht) : List Mk := (z_few_28 c).ms
abbrev z_few_31 (i : Nat) (c : Cht) : Prop := i < (newD c).c.ms.length
abbrev z_few_32 (c : Cht) (i : Nat) : Mk := gD (z_few_30 c) i
abbrev z_few_33 (c : Cht) : List Nt := (z_few_28 c).ns
abbrev z_few_34 (i : Nat) (c : Cht) : Prop := i < (newD c).c.ns.length
abbrev z_few_35 (c : Cht) (i : Nat) : Nt := gD (z_few_33 c) i
abbrev z_few_36 (c : Cht) (i : Nat) : Int := (gD (newD c).c.ns i).t.lo
abbrev z_few_37 (c : Cht) (i : Nat) : Span := (z_few_35 c i).t
abbrev z_few_38 (c : Cht) (i : Nat) : Int := (gD (newD c).c.ns i).t.hi
abbrev z_few_39 (c : Cht) (i : Nat) : Int := (gD (newD c).c.ns i).s.lo
abbrev z_few_40 (c : Cht) (i : Nat) : Span := (z_few_35 c i).s
abbrev z_few_41 (c : Cht) (i : Nat) : Int := (gD (newD c).c.ns i).s.hi
abbrev z_few_42 : Prop := ∀ (i : Nat), i < (40 : Nat) -> false = false
abbrev z_few_43 (c : Cht) (n : Int) : Nt := ntOf (z_few_33 c) n
abbrev z_few_44 (c : Cht) (n : Int) : Span := (z_few_43 c n).t
abbrev z_few_45 (c : Cht) (n : Int) : Span := (z_few_43 c n).s
abbrev z_few_46 : Prop := (0 : Nat) < (0 : Nat)
abbrev z_few_47 : Prop := (1 : Nat) <= (1 : Nat)
abbrev z_few_48 : Prop := (0 : Nat) < (1 : Nat)
abbrev z_few_49 : Prop := (1 : Nat) = (1 : Nat)
abbrev z_few_50 : Prop := z_few_47 /\ (z_few_48 -> z_few_49)
abbrev z_few_51 : Prop := true = true -> z_few_48
abbrev z_few_52 : Prop := (1 : Nat) <= (9223372036854775807 : Nat)
abbrev z_few_53 : Prop := (True /\ (z_few_46 -> (0 : Nat) = (1 : Nat))) /\ z_few_50 /\ z_few_51 /\ z_few_52 /\ (8 : Nat) <= (140737488355328 : Nat)
abbrev z_few_54 (c : Cht) : Prop := (newD c).c.p.lo = (newD c).c.p.lo
abbrev z_few_55 (c : Cht) : Prop := (newD c).c.p.hi = (newD c).c.p.hi
abbrev z_few_56 (c : Cht) : Prop := (newD c).c.base = (newD c).c.base
abbrev z_few_57 (c : Cht) : Prop := (newD c).c.scale = (newD c).c.scale
abbrev z_few_58 (c : Cht) : Prop := (newD c).c.off = (newD c).c.off
abbrev z_few_59 (c : Cht) : Prop := (newD c).c.ms.length = (newD c).c.ms.length
abbrev z_few_60 (c : Cht) : Prop := ∀ (i : Nat), z_few_31 i c -> (gD (newD c).c.ms i).pl = (gD (newD c).c.ms i).pl /\ (gD (newD c).c.ms i).ht = (gD (newD c).c.ms i).ht
abbrev z_few_61 (c : Cht) : Prop := (newD c).c.ns.length = (newD c).c.ns.length
abbrev z_few_62 (c : Cht) : Prop := ∀ (i : Nat), z_few_34 i c -> (gD (newD c).c.ns i).mi = (gD (newD c).c.ns i).mi /\ z_few_36 c i = z_few_36 c i /\ z_few_38 c i = z_few_38 c i /\ z_few_39 c i = z_few_39 c i /\ z_few_41 c i =
 z_few_41 c i
abbrev z_few_63 (c : Cht) : Prop := ∀ (n : Int), hasN (newD c).c.ns n = hasN (newD c).c.ns n
abbrev z_few_64 (c : Cht) : Prop := ∀ (n : Int), (newD c).st n = (newD c).st n
abbrev z_few_65 (c : Cht) : Prop := ∀ (n : Int), (ntOf (newD c).c.ns n).mi = (ntOf (newD c).c.ns n).mi /\ (ntOf (newD c).c.ns n).t.lo = (ntOf (newD c).c.ns n).t.lo /\ (ntOf (newD c).c.ns n).t.hi = (ntOf (newD c).c.ns
 n).t.hi /\ (ntOf (newD c).c.ns n).s.lo = (ntOf (newD c).c.ns n).s.lo /\ (ntOf (newD c).c.ns n).s.hi = (ntOf (newD c).c.ns n).s.hi
abbrev z_few_66 (a : Nat) (c : Cht) : Prop := (1 : Nat) <= a /\ a <= c.ns.length
abbrev z_few_67 (a : Nat) : Nat := (50 : Nat) - a
abbrev z_few_68 (a : Nat) (c : Cht) : Bool := decide ((↑a : Int) < (↑c.ns.length : Int))
abbrev z_few_69 : Prop := false = true -> z_few_48
abbrev z_few_70 (a : Nat) : Nat := a + (1 : Nat)
abbrev z_few_71 (a : Nat) (a1 : Nat) : Prop := a = z_few_70 a1
abbrev z_few_72 (a : Nat) (a1 : Nat) : Prop := (↑a : Int) = IntKind.i64.wrap ((↑a1 : Int) + (1 : Int))
abbrev z_few_73 (c : Cht) : Prop := Nat.le (1 : Nat) c.ns.length
abbrev z_few_74 (c : Cht) : List Int := rng c.ns.length λ (i : Nat) => (↑i : Int)
abbrev z_few_75 (c : Cht) : Nat := (z_few_74 c).length
abbrev z_few_76 (c : Cht) : Prop := z_few_75 c = c.ns.length
abbrev z_few_77 (i : Nat) (c : Cht) : Prop := i < z_few_75 c
abbrev z_few_78 (c : Cht) (i : Nat) : Int := gD (z_few_74 c) i
abbrev z_few_79 (j : Nat) : Nat := (0 : Nat) + j
abbrev z_few_80 (c : Cht) : Prop := z_few_54 c /\ z_few_55 c /\ z_few_56 c /\ z_few_57 c /\ z_few_58 c /\ z_few_59 c /\ z_few_60 c /\ z_few_61 c /\ z_few_62 c /\ z_few_42 /\ zNt = zNt /\ z_few_63 c /\ z_few_64 c /\ z_few_65 c
abbrev z_few_81 (c : Cht) : Prop := c.p.lo = c.p.lo /\ c.p.hi = c.p.hi /\ c.base = c.base /\ c.scale = c.scale /\ c.off = c.off /\ z_few_23 c /\ z_few_24 c /\ z_few_25 c /\ z_few_26 c /\ z_few_80 c
abbrev z_few_82 (c : Cht) : Prop := (ordL c).length = (ordL c).length
abbrev z_few_83 (c : Cht) : Prop := ∀ (i : Nat), i < (ordL c).length -> gD (ordL c) i = gD (ordL c) i
abbrev z_few_84 (a : Nat) (c : Cht) : Prop := a <= c.ns.length /\ (fwK c a).q = []
abbrev z_few_85 (a : Nat) : Prop := (0 : Int) <= (↑a : Int)
abbrev z_few_86 (a : Nat) (c : Cht) : Prop := z_few_85 a /\ (↑a : Int) < (↑(ordL c).length : Int)
abbrev z_few_87 (a : Nat) (c : Cht) : Prop := (0 : Int) <= (0 : Int) /\ z_few_85 a /\ (↑a : Int) <= (↑(ordL c).length : Int)
abbrev z_few_88 (c : Cht) (a : IJ) (a1 : Nat) : Prop := gD (ordL c) a.i = gD (ordL c) a1
abbrev z_few_89 (a : Nat) : Nat := a - Int.toNat (0 : Int)
abbrev z_few_90 (a : IJ) (c : Cht) (a1 : Nat) : Prop := (List.take a.i (ordL c)).length = z_few_89 a1
abbrev z_few_91 (i : Nat) (a : IJ) (c : Cht) : Prop := i < (List.take a.i (ordL c)).length
abbrev z_few_92 (a : IJ) (c : Cht) (i : Nat) : Int := gD (List.take a.i (ordL c)) i
abbrev z_few_93 (a : IJ) (c : Cht) : Prop := ∀ (i : Nat), z_few_91 i a c -> z_few_92 a c i = gD (ordL c) (Int.toNat (0 : Int) + i)
abbrev z_few_94 (a : IJ) (a1 : Nat) : Prop := (↑a.i : Int) = (↑(z_few_89 a1) : Int)
abbrev z_few_95 (a : IJ) : Prop := (↑a.j : Int) = (0 : Int)
abbrev z_few_96 (c : Cht) (a : IJ) (a1 : Nat) : Prop := (fwK c a.i).la = (fwK c a1).la
abbrev z_few_97 (a : IJ) (a1 : Nat) : Prop := (↑a.i : Int) = (↑a1 : Int)
abbrev z_few_98 (c : Cht) (a : Nat) : Nat := c.ns.length - a
abbrev z_few_99 (a : IJ) (c : Cht) (a1 : Nat) : Prop := a.i < c.ns.length /\ c.ns.length - a.i = z_few_98 c a1 /\ a.j <= a.i /\ ∀ (t : Nat), t < a.j -> fwP c (fwK c a.i).la (gD (ordL c) a.i) (gD (ordL c) t) = false
abbrev z_few_100 (a : IJ) (c : Cht) (a1 : Nat) : Prop := z_few_99 a c a1 /\ (fwK c a.i).q = []
abbrev z_few_101 (a : IJ) : Bool := decide ((↑a.j : Int) < (↑a.i : Int))
abbrev z_few_102 (a : IJ) (c : Cht) : Prop := (0 : Int) <= (↑a.j : Int) /\ (↑a.j : Int) < (↑(List.take a.i (ordL c)).length : Int)
abbrev z_few_103 (a : IJ) (c : Cht) : Int := gD (List.take a.i (ordL c)) a.j
abbrev z_few_104 (c : Cht) (a : IJ) : Bool := decide ((gD c.ns (z_few_103 a c).toNat).mi > (fwK c a.i).la)
abbrev z_few_105 (a : IJ) (c : Cht) : Pr := dPr (DVal.agg [eInt (z_few_103 a c), DVal.v (Value.int IntKind.i64 (gD (ordL c) a.i))])
abbrev z_few_106 (a : IJ) (c : Cht) : Int := (z_few_105 a c).a
abbrev z_few_107 (a : IJ) (c : Cht) : Int := (z_few_105 a c).b
abbrev z_few_108 (c : Cht) : List Mk := rng (newD c).c.ms.length λ (i : Nat) => gD (newD c).c.ms i
abbrev z_few_109 (c : Cht) : Nat := (z_few_108 c).length
abbrev z_few_110 (c : Cht) : Prop := z_few_109 c = (newD c).c.ms.length
abbrev z_few_111 (c : Cht) (i : Nat) : Mk := gD (z_few_108 c) i
abbrev z_few_112 (c : Cht) (i : Nat) : Int := (z_few_111 c i).pl
abbrev z_few_113 (c : Cht) (i : Nat) : Int := (z_few_111 c i).ht
abbrev z_few_114 (c : Cht) : Prop := ∀ (i : Nat), i < z_few_109 c -> z_few_112 c i = (gD (newD c).c.ms i).pl /\ z_few_113 c i = (gD (newD c).c.ms i).ht
abbrev z_few_115 (c : Cht) : List Nt := rng (newD c).c.ns.length λ (i : Nat) => gD (newD c).c.ns i
abbrev z_few_116 (c : Cht) : Nat := (z_few_115 c).length
abbrev z_few_117 (c : Cht) : Prop := z_few_116 c = (newD c).c.ns.length
abbrev z_few_118 (i : Nat) (c : Cht) : Prop := i < z_few_116 c
abbrev z_few_119 (c : Cht) (i : Nat) : Nt := gD (z_few_115 c) i
abbrev z_few_120 (c : Cht) (i : Nat) : Int := (z_few_119 c i).mi
abbrev z_few_121 (c : Cht) (i : Nat) : Span := (z_few_119 c i).t
abbrev z_few_122 (c : Cht) (i : Nat) : Int := (z_few_121 c i).lo
abbrev z_few_123 (c : Cht) (i : Nat) : Int := (z_few_121 c i).hi
abbrev z_few_124 (c : Cht) (i : Nat) : Span := (z_few_119 c i).s
abbrev z_few_125 (c : Cht) (i : Nat) : Int := (z_few_124 c i).lo
abbrev z_few_126 (c : Cht) (i : Nat) : Int := (z_few_124 c i).hi
abbrev z_few_127 (c : Cht) : Prop := ∀ (i : Nat), z_few_118 i c -> z_few_120 c i = (gD (newD c).c.ns i).mi /\ z_few_122 c i = z_few_36 c i /\ z_few_123 c i = z_few_38 c i /\ z_few_125 c i = z_few_39 c i /\ z_few_126 c i =
 z_few_41 c i
abbrev z_few_128 (c : Cht) (n : Int) : Bool := hasN (z_few_115 c) n
abbrev z_few_129 (c : Cht) : Prop := ∀ (n : Int), z_few_128 c n = hasN (newD c).c.ns n
abbrev z_few_130 (c : Cht) (n : Int) : Nt := ntOf (z_few_115 c) n
abbrev z_few_131 (c : Cht) (n : Int) : Int := (z_few_130 c n).mi
abbrev z_few_132 (c : Cht) (n : Int) : Span := (z_few_130 c n).t
abbrev z_few_133 (c : Cht) (n : Int) : Int := (z_few_132 c n).lo
abbrev z_few_134 (c : Cht) (n : Int) : Int := (z_few_132 c n).hi
abbrev z_few_135 (c : Cht) (n : Int) : Span := (z_few_130 c n).s
abbrev z_few_136 (c : Cht) (n : Int) : Int := (z_few_135 c n).lo
abbrev z_few_137 (c : Cht) (n : Int) : Int := (z_few_135 c n).hi
abbrev z_few_138 (c : Cht) : Prop := ∀ (n : Int), z_few_131 c n = (ntOf (newD c).c.ns n).mi /\ z_few_133 c n = (ntOf (newD c).c.ns n).t.lo /\ z_few_134 c n = (ntOf (newD c).c.ns n).t.hi /\ z_few_136 c n = (ntOf (newD
 c).c.ns n).s.lo /\ z_few_137 c n = (ntOf (newD c).c.ns n).s.hi
abbrev z_few_139 (c : Cht) : Prop := z_few_109 c <= (40 : Nat)
abbrev z_few_140 (a : IJ) (c : Cht) : Prop := ((0 : Int) <= z_few_103 a c /\ z_few_103 a c < (↑c.ns.length : Int)) /\ (z_few_104 c a = true -> z_few_106 a c = z_few_103 a c /\ z_few_107 a c = gD (ordL c) a.i /\ z_few_54 c /\
 z_few_55 c /\ z_few_56 c /\ z_few_57 c /\ z_few_58 c /\ z_few_110 c /\ z_few_114 c /\ z_few_117 c /\ z_few_127 c /\ z_few_42 /\ zNt = zNt /\ z_few_129 c /\ z_few_64 c /\ z_few_138 c /\ z_few_54 c /\ z_few_55 c /\ z_few_56 c /\ z_few_57
 c /\ z_few_58 c /\ (newD c).c.ms.length = z_few_109 c /\ (∀ (i : Nat), z_few_31 i c -> (gD (newD c).c.ms i).pl = z_few_112 c i /\ (gD (newD c).c.ms i).ht = z_few_113 c i) /\ (newD c).c.ns.length = z_few_116 c /\ (∀ (i : Nat),
 z_few_34 i c -> (gD (newD c).c.ns i).mi = z_few_120 c i /\ z_few_36 c i = z_few_122 c i /\ z_few_38 c i = z_few_123 c i /\ z_few_39 c i = z_few_125 c i /\ z_few_41 c i = z_few_126 c i) /\ z_few_42 /\ zNt = zNt /\ (∀ (n : Int),
 hasN (newD c).c.ns n = z_few_128 c n) /\ z_few_64 c /\ (∀ (n : Int), (ntOf (newD c).c.ns n).mi = z_few_131 c n /\ (ntOf (newD c).c.ns n).t.lo = z_few_133 c n /\ (ntOf (newD c).c.ns n).t.hi = z_few_134 c n /\ (ntOf (newD
 c).c.ns n).s.lo = z_few_136 c n /\ (ntOf (newD c).c.ns n).s.hi = z_few_137 c n) /\ (((0 : Int) <= z_few_106 a c /\ z_few_106 a c < (↑(z_few_116 c) : Int)) /\ (0 : Int) <= z_few_107 a c /\ z_few_107 a c < (↑(z_few_116 c) : Int))
 /\ (z_few_139 c /\ z_few_116 c <= (20 : Nat)) /\ ∀ (i : Nat), z_few_118 i c -> (0 : Int) <= z_few_120 c i /\ z_few_120 c i < (↑(z_few_109 c) : Int))
abbrev z_few_141 (c : Cht) : Cht := Cht.mk (newD c).c.p (newD c).c.base (newD c).c.scale (newD c).c.off (z_few_108 c) (z_few_115 c)
abbrev z_few_142 (c : Cht) (a : IJ) : Bool := bif z_few_104 c a then lateM (z_few_141 c) (z_few_105 a c) else false
abbrev z_few_143 (c : Cht) (a : IJ) : Prop := (0 : Int) <= gD (ordL c) a.i /\ gD (ordL c) a.i < (↑c.ns.length : Int)
abbrev z_few_144 : Prop := (2 : Nat) = (2 : Nat)
abbrev z_few_145 : Prop := z_few_47 /\ (z_few_48 -> z_few_144)
abbrev z_few_146 (c : Cht) (a : Nat) : FwS := fwK c (z_few_70 a)
abbrev z_few_147 (c : Cht) (a : Nat) : List Int := (z_few_146 c a).q
abbrev z_few_148 (c : Cht) (a : Nat) : Nat := (z_few_147 c a).length
abbrev z_few_149 (c : Cht) (a : Nat) : Prop := z_few_148 c a = (1 : Nat)
abbrev z_few_150 (c : Cht) (a : Nat) : List Pr := (z_few_146 c a).r
abbrev z_few_151 (c : Cht) (a : Nat) : Nat := (z_few_150 c a).length
abbrev z_few_152 (c : Cht) (a : Nat) : Prop := z_few_151 c a = (1 : Nat)
abbrev z_few_153 (c : Cht) (a : Nat) : Int := (z_few_146 c a).la
abbrev z_few_154 (c : Cht) (a : IJ) : Int := IntKind.i64.wrap ((gD c.ns (gD (ordL c) a.i).toNat).mi - (1 : Int))
abbrev z_few_155 (c : Cht) (a : Nat) (a1 : IJ) : Prop := z_few_153 c a = z_few_154 c a1
abbrev z_few_156 (a : Nat) (a1 : IJ) : Prop := (↑a : Int) = (↑a1.i : Int)
abbrev z_few_157 (i : Nat) (c : Cht) (a : Nat) : Prop := i < z_few_148 c a
abbrev z_few_158 (c : Cht) (a : Nat) (i : Nat) : Int := gD (z_few_147 c a) i
abbrev z_few_159 (i : Nat) (c : Cht) (a : Nat) : Prop := i < z_few_151 c a
abbrev z_few_160 (c : Cht) (a : Nat) (i : Nat) : Pr := gD (z_few_150 c a) i
abbrev z_few_161 (c : Cht) (a : Nat) (i : Nat) : Int := (z_few_160 c a i).a
abbrev z_few_162 (c : Cht) (a : Nat) (i : Nat) : Int := (z_few_160 c a i).b
abbrev z_few_163 (c : Cht) (a : Nat) (a1 : Nat) : Prop := z_few_98 c a = z_few_98 c a1
abbrev z_few_164 (a : Nat) (c : Cht) (a1 : Nat) : Prop := a < c.ns.length /\ z_few_163 c a a1 /\ (1 : Nat) <= z_few_148 c a
abbrev z_few_165 (c : Cht) (a : IJ) (a1 : IJ) : Prop := gD (ordL c) a.i = gD (ordL c) a1.i
abbrev z_few_166 (a : IJ) (c : Cht) (a1 : IJ) : Prop := (List.take a.i (ordL c)).length = (List.take a1.i (ordL c)).length
abbrev z_few_167 (a : IJ) (c : Cht) (a1 : IJ) : Prop := ∀ (i : Nat), z_few_91 i a c -> z_few_92 a c i = z_few_92 a1 c i
abbrev z_few_168 (a : IJ) (a1 : IJ) : Prop := (↑a.i : Int) = (↑a1.i : Int)
abbrev z_few_169 (a : IJ) (a1 : IJ) : Prop := (↑a.j : Int) = IntKind.i64.wrap ((↑a1.j : Int) + (1 : Int))
abbrev z_few_170 (c : Cht) (a : IJ) (a1 : IJ) : Prop := (fwK c a.i).la = (fwK c a1.i).la
abbrev z_few_171 (c : Cht) (a : IJ) : Nat := c.ns.length - a.j
abbrev z_few_172 (c : Cht) (a : IJ) (a1 : IJ) : Prop := z_few_171 c a < z_few_171 c a1
abbrev z_few_173 (c : Cht) (a : Nat) (a1 : IJ) : Prop := z_few_153 c a = (fwK c a1.i).la
abbrev z_few_174 (a : Nat) (c : Cht) (a1 : Nat) : Prop := a < c.ns.length /\ z_few_163 c a a1 /\ z_few_147 c a = []
abbrev z_few_175 (c : Cht) (a : Nat) (a1 : Nat) : Prop := (fwK c a).la = z_few_153 c a1
abbrev z_few_176 (c : Cht) (a : Nat) (a1 : Nat) : Prop := z_few_98 c a < z_few_98 c a1
abbrev z_few_177 (c : Cht) (a : Nat) (a1 : Nat) : Prop := (fwK c a).q.length = z_few_148 c a1
abbrev z_few_178 (c : Cht) (a : Nat) (a1 : Nat) : Prop := (fwK c a).r.length = z_few_151 c a1
abbrev z_few_179 (a : Nat) (c : Cht) : Prop := a <= c.ns.length /\ (1 : Nat) <= (fwK c a).q.length
abbrev z_few_180 (c : Cht) (a : Nat) : Prop := ∀ (a_1 : Nat), z_few_164 a_1 c a -> ∃ (a_3 : Nat), (z_few_20 /\ z_few_177 c a_3 a_1 /\ z_few_20 /\ z_few_178 c a_3 a_1 /\ z_few_82 c /\ z_few_83 c /\ z_few_175 c a_3 a_1 /\ z_few_82
 c /\ z_few_83 c /\ z_few_22 c /\ z_few_72 a_3 a_1 /\ c.p.lo = c.p.lo /\ c.p.hi = c.p.hi /\ c.base = c.base /\ c.scale = c.scale /\ c.off = c.off /\ z_few_23 c /\ z_few_24 c /\ z_few_25 c /\ z_few_26 c /\ z_few_54 c /\ z_few_55 c /\
 z_few_56 c /\ z_few_57 c /\ z_few_58 c /\ z_few_59 c /\ z_few_60 c /\ z_few_61 c /\ z_few_62 c /\ z_few_42 /\ zNt = zNt /\ z_few_63 c /\ z_few_64 c /\ z_few_65 c /\ z_few_177 c a_3 a_1 /\ (∀ (i : Nat), i < (fwK c a_3).q.length -> gD
 (fwK c a_3).q i = z_few_158 c a_1 i) /\ z_few_178 c a_3 a_1 /\ ∀ (i : Nat), i < (fwK c a_3).r.length -> (gD (fwK c a_3).r i).a = z_few_161 c a_1 i /\ (gD (fwK c a_3).r i).b = z_few_162 c a_1 i) /\ z_few_179 a_3 c /\ z_few_176
 c a_3 a
abbrev z_few_181 (c : Cht) : Prop := (fwE c).q.length = (0 : Nat)
abbrev z_few_182 (c : Cht) : Prop := (fwE c).r.length = (0 : Nat)
abbrev z_few_183 (c : Cht) (a : IJ) (a1 : Nat) : Prop := (fwK c a.i).q.length = (fwK c a1).q.length
abbrev z_few_184 (c : Cht) (a : IJ) (a1 : Nat) : Prop := (fwK c a.i).r.length = (fwK c a1).r.length
abbrev z_few_185 (i : Nat) (c : Cht) (a : IJ) : Prop := i < (fwK c a.i).q.length
abbrev z_few_186 (i : Nat) (c : Cht) (a : IJ) : Prop := i < (fwK c a.i).r.length
abbrev z_few_187 (c : Cht) (a : IJ) (i : Nat) : Int := (gD (fwK c a.i).r i).a
abbrev z_few_188 (c : Cht) (a : IJ) (i : Nat) : Int := (gD (fwK c a.i).r i).b
abbrev z_few_189 (a : IJ) (c : Cht) (a1 : Nat) : Prop := z_few_99 a c a1 /\ (1 : Nat) <= (fwK c a.i).q.length
abbrev z_few_190 (c : Cht) (a : IJ) : Nat := (fwK c a.i).q.length + (1 : Nat)
abbrev z_few_191 (c : Cht) (a : IJ) : Nat := (fwK c a.i).r.length + (1 : Nat)
abbrev z_few_192 (c : Cht) (a : Nat) (a1 : IJ) : Prop := z_few_148 c a = z_few_190 c a1
abbrev z_few_193 (c : Cht) (a : Nat) (a1 : IJ) : Prop := z_few_151 c a = z_few_191 c a1
abbrev z_few_194 (i : Nat) (c : Cht) (a : IJ) : Bool := decide (z_few_186 i c a)
abbrev z_few_195 (c : Cht) (a : IJ) (a1 : IJ) : Prop := (fwK c a.i).q.length = (fwK c a1.i).q.length
abbrev z_few_196 (c : Cht) (a : IJ) (a1 : IJ) : Prop := (fwK c a.i).r.length = (fwK c a1.i).r.length
abbrev z_few_197 (c : Cht) (a : Nat) (a1 : IJ) : Prop := z_few_148 c a = (fwK c a1.i).q.length
abbrev z_few_198 (c : Cht) (a : Nat) (a1 : IJ) : Prop := z_few_151 c a = (fwK c a1.i).r.length
abbrev z_few_199 (c : Cht) (a : Nat) (j : Nat) : Pr := gD (fwK c a).r (z_few_79 j)
abbrev z_few_200 (c : Cht) : List Int := rng (fwE c).q.length λ (i : Nat) => gD (fwE c).q i
abbrev z_few_201 (c : Cht) : Nat := (z_few_200 c).length
abbrev z_few_202 (c : Cht) : Dk := stD (DkZ.mk (Dk.mk (z_few_141 c) (newD c).st (newD c).sp) (z_few_200 c))
abbrev z_few_203 (c : Cht) : Cht := (z_few_202 c).c
abbrev z_few_204 (c : Cht) : List Nt := (z_few_203 c).ns
abbrev z_few_205 (c : Cht) (n : Int) : Nt := ntOf (z_few_204 c) n
abbrev z_few_206 (c : Cht) (n : Int) : Span := (z_few_205 c n).t
abbrev z_few_207 (c : Cht) (n : Int) : Span := (z_few_205 c n).s
abbrev z_few_208 (c : Cht) : Span := (z_few_203 c).p
abbrev z_few_209 (c : Cht) : Int := (z_few_208 c).lo
abbrev z_few_210 (c : Cht) : Prop := z_few_209 c = z_few_209 c
abbrev z_few_211 (c : Cht) : Int := (z_few_208 c).hi
abbrev z_few_212 (c : Cht) : Prop := z_few_211 c = z_few_211 c
abbrev z_few_213 (c : Cht) : Int := (z_few_203 c).base
abbrev z_few_214 (c : Cht) : Prop := z_few_213 c = z_few_213 c
abbrev z_few_215 (c : Cht) : Int := (z_few_203 c).scale
abbrev z_few_216 (c : Cht) : Prop := z_few_215 c = z_few_215 c
abbrev z_few_217 (c : Cht) : Int := (z_few_203 c).off
abbrev z_few_218 (c : Cht) : Prop := z_few_217 c = z_few_217 c
abbrev z_few_219 (c : Cht) : List Mk := (z_few_203 c).ms
abbrev z_few_220 (c : Cht) : Nat := (z_few_219 c).length
abbrev z_few_221 (c : Cht) (i : Nat) : Mk := gD (z_few_219 c) i
abbrev z_few_222 (c : Cht) : List Mk := rng (z_few_220 c) λ (i : Nat) => z_few_221 c i
abbrev z_few_223 (c : Cht) : Nat := (z_few_222 c).length
abbrev z_few_224 (c : Cht) (i : Nat) : Mk := gD (z_few_222 c) i
abbrev z_few_225 (c : Cht) (i : Nat) : Int := (z_few_224 c i).pl
abbrev z_few_226 (c : Cht) (i : Nat) : Int := (z_few_221 c i).pl
abbrev z_few_227 (c : Cht) (i : Nat) : Int := (z_few_224 c i).ht
abbrev z_few_228 (c : Cht) (i : Nat) : Int := (z_few_221 c i).ht
abbrev z_few_229 (c : Cht) : Nat := (z_few_204 c).length
abbrev z_few_230 (c : Cht) (i : Nat) : Nt := gD (z_few_204 c) i
abbrev z_few_231 (c : Cht) : List Nt := rng (z_few_229 c) λ (i : Nat) => z_few_230 c i
abbrev z_few_232 (c : Cht) : Nat := (z_few_231 c).length
abbrev z_few_233 (c : Cht) (i : Nat) : Nt := gD (z_few_231 c) i
abbrev z_few_234 (c : Cht) (i : Nat) : Int := (z_few_233 c i).mi
abbrev z_few_235 (c : Cht) (i : Nat) : Int := (z_few_230 c i).mi
abbrev z_few_236 (c : Cht) (i : Nat) : Span := (z_few_233 c i).t
abbrev z_few_237 (c : Cht) (i : Nat) : Int := (z_few_236 c i).lo
abbrev z_few_238 (c : Cht) (i : Nat) : Span := (z_few_230 c i).t
abbrev z_few_239 (c : Cht) (i : Nat) : Int := (z_few_238 c i).lo
abbrev z_few_240 (c : Cht) (i : Nat) : Int := (z_few_236 c i).hi
abbrev z_few_241 (c : Cht) (i : Nat) : Int := (z_few_238 c i).hi
abbrev z_few_242 (c : Cht) (i : Nat) : Span := (z_few_233 c i).s
abbrev z_few_243 (c : Cht) (i : Nat) : Int := (z_few_242 c i).lo
abbrev z_few_244 (c : Cht) (i : Nat) : Span := (z_few_230 c i).s
abbrev z_few_245 (c : Cht) (i : Nat) : Int := (z_few_244 c i).lo
abbrev z_few_246 (c : Cht) (i : Nat) : Int := (z_few_242 c i).hi
abbrev z_few_247 (c : Cht) (i : Nat) : Int := (z_few_244 c i).hi
abbrev z_few_248 (c : Cht) (i : Nat) : Bool := (z_few_202 c).sp i
abbrev z_few_249 (c : Cht) : Prop := ∀ (i : Nat), i < (40 : Nat) -> z_few_248 c i = z_few_248 c i
abbrev z_few_250 (c : Cht) (n : Int) : Bool := hasN (z_few_231 c) n
abbrev z_few_251 (c : Cht) (n : Int) : Nt := ntOf (z_few_231 c) n
abbrev z_few_252 (c : Cht) (n : Int) : Int := (z_few_251 c n).mi
abbrev z_few_253 (c : Cht) (n : Int) : Span := (z_few_251 c n).t
abbrev z_few_254 (c : Cht) (n : Int) : Int := (z_few_253 c n).lo
abbrev z_few_255 (c : Cht) (n : Int) : Int := (z_few_253 c n).hi
abbrev z_few_256 (c : Cht) (n : Int) : Span := (z_few_251 c n).s
abbrev z_few_257 (c : Cht) (n : Int) : Int := (z_few_256 c n).lo
abbrev z_few_258 (c : Cht) (n : Int) : Int := (z_few_256 c n).hi
abbrev z_few_259 (c : Cht) : Prop := (fwO c).q.length = (0 : Nat)
abbrev z_few_260 (c : Cht) : Prop := (fwO c).r.length = (0 : Nat)
abbrev z_few_261 (c : Cht) : Prop := ∀ (a : One), True -> (z_few_201 c = (fwE c).q.length /\ (∀ (i : Nat), i < z_few_201 c -> gD (z_few_200 c) i = gD (fwE c).q i) /\ z_few_54 c /\ z_few_55 c /\ z_few_56 c /\ z_few_57 c /\
 z_few_58 c /\ z_few_110 c /\ z_few_114 c /\ z_few_117 c /\ z_few_127 c /\ z_few_42 /\ zNt = zNt /\ z_few_129 c /\ z_few_64 c /\ z_few_138 c /\ zNt = zNt /\ (∀ (n : Int), hasN (newD c).c.ns n = hasN (z_few_204 c) n) /\ (∀ (n : Int),
 (newD c).st n = (z_few_202 c).st n) /\ (∀ (n : Int), (ntOf (newD c).c.ns n).mi = (z_few_205 c n).mi /\ (ntOf (newD c).c.ns n).t.lo = (z_few_206 c n).lo /\ (ntOf (newD c).c.ns n).t.hi = (z_few_206 c n).hi /\ (ntOf (newD
 c).c.ns n).s.lo = (z_few_207 c n).lo /\ (ntOf (newD c).c.ns n).s.hi = (z_few_207 c n).hi) /\ z_few_201 c < (4611686018427387904 : Nat) /\ z_few_139 c) /\ (z_few_210 c /\ z_few_212 c /\ z_few_214 c /\ z_few_216 c /\ z_few_218 c /\
 z_few_223 c = z_few_220 c /\ (∀ (i : Nat), i < z_few_223 c -> z_few_225 c i = z_few_226 c i /\ z_few_227 c i = z_few_228 c i) /\ z_few_232 c = z_few_229 c /\ (∀ (i : Nat), i < z_few_232 c -> z_few_234 c i = z_few_235 c i /\
 z_few_237 c i = z_few_239 c i /\ z_few_240 c i = z_few_241 c i /\ z_few_243 c i = z_few_245 c i /\ z_few_246 c i = z_few_247 c i) /\ z_few_249 c /\ zNt = zNt /\ (∀ (n : Int), z_few_250 c n = hasN (newD c).c.ns n) /\ z_few_64 c
 /\ (∀ (n : Int), z_few_252 c n = (ntOf (newD c).c.ns n).mi /\ z_few_254 c n = (ntOf (newD c).c.ns n).t.lo /\ z_few_255 c n = (ntOf (newD c).c.ns n).t.hi /\ z_few_257 c n = (ntOf (newD c).c.ns n).s.lo /\ z_few_258 c n = (ntOf
 (newD c).c.ns n).s.hi) /\ z_few_210 c /\ z_few_212 c /\ z_few_214 c /\ z_few_216 c /\ z_few_218 c /\ z_few_220 c = z_few_223 c /\ (∀ (i : Nat), i < z_few_220 c -> z_few_226 c i = z_few_225 c i /\ z_few_228 c i = z_few_227 c i) /\
 z_few_229 c = z_few_232 c /\ (∀ (i : Nat), i < z_few_229 c -> z_few_235 c i = z_few_234 c i /\ z_few_239 c i = z_few_237 c i /\ z_few_241 c i = z_few_240 c i /\ z_few_245 c i = z_few_243 c i /\ z_few_247 c i = z_few_246 c i) /\
 z_few_249 c /\ zNt = zNt /\ (∀ (n : Int), hasN (newD c).c.ns n = z_few_250 c n) /\ z_few_64 c /\ (∀ (n : Int), (ntOf (newD c).c.ns n).mi = z_few_252 c n /\ (ntOf (newD c).c.ns n).t.lo = z_few_254 c n /\ (ntOf (newD c).c.ns
 n).t.hi = z_few_255 c n /\ (ntOf (newD c).c.ns n).s.lo = z_few_257 c n /\ (ntOf (newD c).c.ns n).s.hi = z_few_258 c n) /\ (1 : Nat) <= z_few_223 c /\ z_few_223 c <= (40 : Nat) /\ ∀ (j : Int), z_few_250 c j = true -> (0 : Int) <=
 j /\ j < (↑(z_few_223 c) : Int)) /\ bif !(timesV (Dk.mk (Cht.mk (z_few_208 c) (z_few_213 c) (z_few_215 c) (z_few_217 c) (z_few_222 c) (z_few_231 c)) (newD c).st (z_few_202 c).sp)).snd then z_few_259 c /\ z_few_259 c /\
 z_few_260 c /\ z_few_260 c /\ (fwO c).e = (6 : Int) else (fwO c).q.length = (fwE c).q.length /\ (∀ (i : Nat), i < (fwO c).q.length -> gD (fwO c).q i = gD (fwE c).q i) /\ (fwO c).r.length = (fwE c).r.length /\ (∀ (i : Nat), i <
 (fwO c).r.length -> (gD (fwO c).r i).a = (gD (fwE c).r i).a /\ (gD (fwO c).r i).b = (gD (fwE c).r i).b) /\ (fwO c).e = (0 : Int)
theorem vc_few (c : Cht) : (V_few c) = ((c.p.lo = c.p.lo /\ c.p.hi = c.p.hi /\ c.base = c.base /\ c.scale = c.scale /\ c.off = c.off /\ z_few_2 c /\ z_few_6 c /\ z_few_9 c /\ z_few_18 c /\ (z_few_1 c < (4611686018427387904 : Nat)
 /\ z_few_8 c < (4611686018427387904 : Nat)) /\ checkC (z_few_19 c) = (0 : Int)) /\ ((∃ (a : One), (z_few_20 /\ z_few_21 /\ z_few_22 c /\ Int.ofNat (0 : Nat) = Int.ofNat (0 : Nat) /\ c.p.lo = c.p.lo /\ c.p.hi = c.p.hi /\ c.base =
 c.base /\ c.scale = c.scale /\ c.off = c.off /\ z_few_23 c /\ z_few_24 c /\ z_few_25 c /\ z_few_26 c /\ (newD c).c.p.lo = (z_few_29 c).lo /\ (newD c).c.p.hi = (z_few_29 c).hi /\ (newD c).c.base = (z_few_28 c).base /\ (newD
 c).c.scale = (z_few_28 c).scale /\ (newD c).c.off = (z_few_28 c).off /\ (newD c).c.ms.length = (z_few_30 c).length /\ (∀ (i : Nat), z_few_31 i c -> (gD (newD c).c.ms i).pl = (z_few_32 c i).pl /\ (gD (newD c).c.ms i).ht =
 (z_few_32 c i).ht) /\ (newD c).c.ns.length = (z_few_33 c).length /\ (∀ (i : Nat), z_few_34 i c -> (gD (newD c).c.ns i).mi = (z_few_35 c i).mi /\ z_few_36 c i = (z_few_37 c i).lo /\ z_few_38 c i = (z_few_37 c i).hi /\ z_few_39
 c i = (z_few_40 c i).lo /\ z_few_41 c i = (z_few_40 c i).hi) /\ z_few_42 /\ zNt = zNt /\ (∀ (n : Int), hasN (newD c).c.ns n = hasN (z_few_33 c) n) /\ (∀ (n : Int), (newD c).st n = (z_few_27 c).st n) /\ ∀ (n : Int), (ntOf (newD
 c).c.ns n).mi = (z_few_43 c n).mi /\ (ntOf (newD c).c.ns n).t.lo = (z_few_44 c n).lo /\ (ntOf (newD c).c.ns n).t.hi = (z_few_44 c n).hi /\ (ntOf (newD c).c.ns n).s.lo = (z_few_45 c n).lo /\ (ntOf (newD c).c.ns n).s.hi =
 (z_few_45 c n).hi) /\ True) /\ (∀ (a : One), True -> bif decide ((↑(0 : Nat) : Int) < (↑c.ns.length : Int)) then z_few_53 /\ ∃ (a : Nat), (z_few_20 /\ a = (1 : Nat) /\ z_few_22 c /\ (↑a : Int) = IntKind.i64.wrap ((↑(0 : Nat) :
 Int) + (1 : Int)) /\ c.p.lo = c.p.lo /\ c.p.hi = c.p.hi /\ c.base = c.base /\ c.scale = c.scale /\ c.off = c.off /\ z_few_23 c /\ z_few_24 c /\ z_few_25 c /\ z_few_26 c /\ z_few_54 c /\ z_few_55 c /\ z_few_56 c /\ z_few_57 c /\
 z_few_58 c /\ z_few_59 c /\ z_few_60 c /\ z_few_61 c /\ z_few_62 c /\ z_few_42 /\ zNt = zNt /\ z_few_63 c /\ z_few_64 c /\ z_few_65 c /\ a = (1 : Nat) /\ ∀ (i : Nat), i < a -> (↑i : Int) = (↑(0 : Nat) : Int)) /\ z_few_66 a c /\
 z_few_67 a < (60 : Nat) else False) /\ ∀ (a : Nat), z_few_66 a c -> bif z_few_68 a c then ((a = a /\ ((0 : Nat) < a -> z_few_49)) /\ z_few_50 /\ z_few_69 /\ z_few_70 a <= (9223372036854775807 : Nat) /\ z_few_70 a * (8 : Nat) <=
 (140737488355328 : Nat)) /\ ∃ (a_2 : Nat), (z_few_20 /\ z_few_71 a_2 a /\ z_few_22 c /\ z_few_72 a_2 a /\ c.p.lo = c.p.lo /\ c.p.hi = c.p.hi /\ c.base = c.base /\ c.scale = c.scale /\ c.off = c.off /\ z_few_23 c /\ z_few_24 c /\
 z_few_25 c /\ z_few_26 c /\ z_few_54 c /\ z_few_55 c /\ z_few_56 c /\ z_few_57 c /\ z_few_58 c /\ z_few_59 c /\ z_few_60 c /\ z_few_61 c /\ z_few_62 c /\ z_few_42 /\ zNt = zNt /\ z_few_63 c /\ z_few_64 c /\ z_few_65 c /\ z_few_71 a_2 a
 /\ ∀ (i : Nat), i < a_2 -> (↑i : Int) = bif decide (i < a) then (↑i : Int) else (↑a : Int)) /\ z_few_66 a_2 c /\ z_few_67 a_2 < z_few_67 a else ∃ (a_2 : One), (z_few_20 /\ c.ns.length = a /\ c.p.lo = c.p.lo /\ c.p.hi = c.p.hi /\
 c.base = c.base /\ c.scale = c.scale /\ c.off = c.off /\ z_few_23 c /\ z_few_24 c /\ z_few_25 c /\ z_few_26 c /\ z_few_54 c /\ z_few_55 c /\ z_few_56 c /\ z_few_57 c /\ z_few_58 c /\ z_few_59 c /\ z_few_60 c /\ z_few_61 c /\ z_few_62 c
 /\ z_few_42 /\ zNt = zNt /\ z_few_63 c /\ z_few_64 c /\ z_few_65 c /\ c.ns.length = a /\ ∀ (i : Nat), i < c.ns.length -> (↑i : Int) = (↑i : Int)) /\ z_few_73 c) /\ ∀ (a : One), z_few_73 c -> ((z_few_20 /\ z_few_76 c /\ z_few_76 c /\
 (∀ (i : Nat), z_few_77 i c -> z_few_78 c i = (↑i : Int)) /\ c.p.lo = c.p.lo /\ c.p.hi = c.p.hi /\ c.base = c.base /\ c.scale = c.scale /\ c.off = c.off /\ z_few_2 c /\ z_few_6 c /\ z_few_9 c /\ z_few_18 c /\ c.p.lo = c.p.lo /\
 c.p.hi = c.p.hi /\ c.base = c.base /\ c.scale = c.scale /\ c.off = c.off /\ c.ms.length = z_few_1 c /\ (∀ (i : Nat), i < c.ms.length -> (gD c.ms i).pl = z_few_4 c i /\ (gD c.ms i).ht = z_few_5 c i) /\ c.ns.length = z_few_8 c /\
 (∀ (i : Nat), i < c.ns.length -> (gD c.ns i).mi = z_few_11 c i /\ (gD c.ns i).t.lo = z_few_13 c i /\ (gD c.ns i).t.hi = z_few_14 c i /\ (gD c.ns i).s.lo = z_few_16 c i /\ (gD c.ns i).s.hi = z_few_17 c i) /\ z_few_75 c <= (12 :
 Nat) /\ z_few_75 c < (1073741824 : Nat) /\ ∀ (i : Nat), z_few_77 i c -> (0 : Int) <= z_few_78 c i /\ z_few_78 c i < (↑(z_few_8 c) : Int)) /\ ∃ (a : One), ((ordL c).length = c.ns.length /\ (0 : Nat) + c.ns.length <= z_few_75 c /\
 (∀ (j : Nat), j < (ordL c).length -> gD (ordL c) j = gD (stM (keyG (z_few_19 c)) (z_few_74 c)) (z_few_79 j)) /\ z_few_81 c) /\ True) /\ ∀ (a : One), True -> ((∃ (a : Nat), (z_few_20 /\ z_few_21 /\ z_few_20 /\ z_few_21 /\ z_few_82
 c /\ z_few_83 c /\ (fwK c a).la = (-1 : Int) /\ z_few_82 c /\ z_few_83 c /\ (↑c.ns.length : Int) = (↑(ordL c).length : Int) /\ (↑a : Int) = (0 : Int) /\ z_few_81 c) /\ z_few_84 a c) /\ (∀ (a : Nat), z_few_84 a c -> bif z_few_68 a
 c then (z_few_86 a c /\ z_few_87 a c /\ (∃ (a_2 : IJ), (z_few_88 c a_2 a /\ z_few_90 a_2 c a /\ z_few_93 a_2 c /\ z_few_94 a_2 a /\ z_few_95 a_2 /\ z_few_20 /\ z_few_21 /\ z_few_20 /\ z_few_21 /\ z_few_82 c /\ z_few_83 c /\ z_few_96
 c a_2 a /\ z_few_82 c /\ z_few_83 c /\ z_few_22 c /\ z_few_97 a_2 a /\ z_few_81 c) /\ z_few_100 a_2 c a) /\ ∀ (a_2 : IJ), z_few_100 a_2 c a -> bif z_few_101 a_2 then z_few_102 a_2 c /\ z_few_140 a_2 c /\ bif z_few_142 c a_2 then
 z_few_143 c a_2 /\ (z_few_53 /\ (True /\ (z_few_46 -> (0 : Nat) = (2 : Nat))) /\ z_few_145 /\ z_few_51 /\ z_few_52 /\ (16 : Nat) <= (140737488355328 : Nat)) /\ ∃ (a_4 : Nat), (z_few_20 /\ z_few_149 c a_4 /\ z_few_20 /\ z_few_152 c
 a_4 /\ z_few_82 c /\ z_few_83 c /\ z_few_155 c a_4 a_2 /\ z_few_82 c /\ z_few_83 c /\ z_few_22 c /\ z_few_156 a_4 a_2 /\ c.p.lo = c.p.lo /\ c.p.hi = c.p.hi /\ c.base = c.base /\ c.scale = c.scale /\ c.off = c.off /\ z_few_23 c /\
 z_few_24 c /\ z_few_25 c /\ z_few_26 c /\ z_few_54 c /\ z_few_55 c /\ z_few_56 c /\ z_few_57 c /\ z_few_58 c /\ z_few_59 c /\ z_few_60 c /\ z_few_61 c /\ z_few_62 c /\ z_few_42 /\ zNt = zNt /\ z_few_63 c /\ z_few_64 c /\ z_few_65 c /\
 z_few_149 c a_4 /\ (∀ (i : Nat), z_few_157 i c a_4 -> z_few_158 c a_4 i = z_few_154 c a_2) /\ z_few_152 c a_4 /\ ∀ (i : Nat), z_few_159 i c a_4 -> z_few_161 c a_4 i = z_few_103 a_2 c /\ z_few_162 c a_4 i = gD (ordL c) a_2.i) /\
 z_few_164 a_4 c a else ∃ (a_4 : IJ), (z_few_165 c a_4 a_2 /\ z_few_166 a_4 c a_2 /\ z_few_167 a_4 c a_2 /\ z_few_168 a_4 a_2 /\ z_few_169 a_4 a_2 /\ z_few_20 /\ z_few_21 /\ z_few_20 /\ z_few_21 /\ z_few_82 c /\ z_few_83 c /\
 z_few_170 c a_4 a_2 /\ z_few_82 c /\ z_few_83 c /\ z_few_22 c /\ z_few_168 a_4 a_2 /\ z_few_81 c) /\ z_few_100 a_4 c a /\ z_few_172 c a_4 a_2 else ∃ (a_4 : Nat), (z_few_20 /\ z_few_21 /\ z_few_20 /\ z_few_21 /\ z_few_82 c /\
 z_few_83 c /\ z_few_173 c a_4 a_2 /\ z_few_82 c /\ z_few_83 c /\ z_few_22 c /\ z_few_156 a_4 a_2 /\ z_few_81 c) /\ z_few_174 a_4 c a) /\ (∀ (a_2 : Nat), z_few_174 a_2 c a -> ∃ (a_4 : Nat), (z_few_20 /\ z_few_21 /\ z_few_20 /\
 z_few_21 /\ z_few_82 c /\ z_few_83 c /\ z_few_175 c a_4 a_2 /\ z_few_82 c /\ z_few_83 c /\ z_few_22 c /\ z_few_72 a_4 a_2 /\ z_few_81 c) /\ z_few_84 a_4 c /\ z_few_176 c a_4 a) /\ z_few_180 c a else ∃ (a : One), (z_few_181 c /\
 z_few_181 c /\ z_few_182 c /\ z_few_182 c /\ z_few_80 c) /\ True) /\ ∀ (a : Nat), z_few_179 a c -> bif z_few_68 a c then (z_few_86 a c /\ z_few_87 a c /\ (∃ (a_2 : IJ), (z_few_88 c a_2 a /\ z_few_90 a_2 c a /\ z_few_93 a_2 c /\
 z_few_94 a_2 a /\ z_few_95 a_2 /\ z_few_20 /\ z_few_183 c a_2 a /\ z_few_20 /\ z_few_184 c a_2 a /\ z_few_82 c /\ z_few_83 c /\ z_few_96 c a_2 a /\ z_few_82 c /\ z_few_83 c /\ z_few_22 c /\ z_few_97 a_2 a /\ c.p.lo = c.p.lo /\ c.p.hi
 = c.p.hi /\ c.base = c.base /\ c.scale = c.scale /\ c.off = c.off /\ z_few_23 c /\ z_few_24 c /\ z_few_25 c /\ z_few_26 c /\ z_few_54 c /\ z_few_55 c /\ z_few_56 c /\ z_few_57 c /\ z_few_58 c /\ z_few_59 c /\ z_few_60 c /\ z_few_61 c /\
 z_few_62 c /\ z_few_42 /\ zNt = zNt /\ z_few_63 c /\ z_few_64 c /\ z_few_65 c /\ z_few_183 c a_2 a /\ (∀ (i : Nat), z_few_185 i c a_2 -> gD (fwK c a_2.i).q i = gD (fwK c a).q i) /\ z_few_184 c a_2 a /\ ∀ (i : Nat), z_few_186 i c
 a_2 -> z_few_187 c a_2 i = (gD (fwK c a).r i).a /\ z_few_188 c a_2 i = (gD (fwK c a).r i).b) /\ z_few_189 a_2 c a) /\ ∀ (a_2 : IJ), z_few_189 a_2 c a -> bif z_few_101 a_2 then z_few_102 a_2 c /\ z_few_140 a_2 c /\ bif z_few_142
 c a_2 then z_few_143 c a_2 /\ ((((fwK c a_2.i).q.length = (fwK c a_2.i).q.length /\ ((0 : Nat) < (fwK c a_2.i).q.length -> z_few_49)) /\ z_few_50 /\ z_few_69 /\ z_few_190 c a_2 <= (9223372036854775807 : Nat) /\ z_few_190 c a_2 *
 (8 : Nat) <= (140737488355328 : Nat)) /\ ((fwK c a_2.i).r.length = (fwK c a_2.i).r.length /\ ((0 : Nat) < (fwK c a_2.i).r.length -> z_few_144)) /\ z_few_145 /\ z_few_69 /\ z_few_191 c a_2 <= (9223372036854775807 : Nat) /\
 z_few_191 c a_2 * (16 : Nat) <= (140737488355328 : Nat)) /\ ∃ (a_4 : Nat), (z_few_20 /\ z_few_192 c a_4 a_2 /\ z_few_20 /\ z_few_193 c a_4 a_2 /\ z_few_82 c /\ z_few_83 c /\ z_few_155 c a_4 a_2 /\ z_few_82 c /\ z_few_83 c /\
 z_few_22 c /\ z_few_156 a_4 a_2 /\ c.p.lo = c.p.lo /\ c.p.hi = c.p.hi /\ c.base = c.base /\ c.scale = c.scale /\ c.off = c.off /\ z_few_23 c /\ z_few_24 c /\ z_few_25 c /\ z_few_26 c /\ z_few_54 c /\ z_few_55 c /\ z_few_56 c /\
 z_few_57 c /\ z_few_58 c /\ z_few_59 c /\ z_few_60 c /\ z_few_61 c /\ z_few_62 c /\ z_few_42 /\ zNt = zNt /\ z_few_63 c /\ z_few_64 c /\ z_few_65 c /\ z_few_192 c a_4 a_2 /\ (∀ (i : Nat), z_few_157 i c a_4 -> z_few_158 c a_4 i = bif
 decide (z_few_185 i c a_2) then gD (fwK c a_2.i).q i else z_few_154 c a_2) /\ z_few_193 c a_4 a_2 /\ ∀ (i : Nat), z_few_159 i c a_4 -> (z_few_161 c a_4 i = bif z_few_194 i c a_2 then z_few_187 c a_2 i else z_few_103 a_2 c)
 /\ z_few_162 c a_4 i = bif z_few_194 i c a_2 then z_few_188 c a_2 i else gD (ordL c) a_2.i) /\ z_few_164 a_4 c a else ∃ (a_4 : IJ), (z_few_165 c a_4 a_2 /\ z_few_166 a_4 c a_2 /\ z_few_167 a_4 c a_2 /\ z_few_168 a_4 a_2 /\
 z_few_169 a_4 a_2 /\ z_few_20 /\ z_few_195 c a_4 a_2 /\ z_few_20 /\ z_few_196 c a_4 a_2 /\ z_few_82 c /\ z_few_83 c /\ z_few_170 c a_4 a_2 /\ z_few_82 c /\ z_few_83 c /\ z_few_22 c /\ z_few_168 a_4 a_2 /\ c.p.lo = c.p.lo /\ c.p.hi =
 c.p.hi /\ c.base = c.base /\ c.scale = c.scale /\ c.off = c.off /\ z_few_23 c /\ z_few_24 c /\ z_few_25 c /\ z_few_26 c /\ z_few_54 c /\ z_few_55 c /\ z_few_56 c /\ z_few_57 c /\ z_few_58 c /\ z_few_59 c /\ z_few_60 c /\ z_few_61 c /\
 z_few_62 c /\ z_few_42 /\ zNt = zNt /\ z_few_63 c /\ z_few_64 c /\ z_few_65 c /\ z_few_195 c a_4 a_2 /\ (∀ (i : Nat), z_few_185 i c a_4 -> gD (fwK c a_4.i).q i = gD (fwK c a_2.i).q i) /\ z_few_196 c a_4 a_2 /\ ∀ (i : Nat),
 z_few_186 i c a_4 -> z_few_187 c a_4 i = z_few_187 c a_2 i /\ z_few_188 c a_4 i = z_few_188 c a_2 i) /\ z_few_189 a_4 c a /\ z_few_172 c a_4 a_2 else ∃ (a_4 : Nat), (z_few_20 /\ z_few_197 c a_4 a_2 /\ z_few_20 /\ z_few_198 c
 a_4 a_2 /\ z_few_82 c /\ z_few_83 c /\ z_few_173 c a_4 a_2 /\ z_few_82 c /\ z_few_83 c /\ z_few_22 c /\ z_few_156 a_4 a_2 /\ c.p.lo = c.p.lo /\ c.p.hi = c.p.hi /\ c.base = c.base /\ c.scale = c.scale /\ c.off = c.off /\ z_few_23 c /\
 z_few_24 c /\ z_few_25 c /\ z_few_26 c /\ z_few_54 c /\ z_few_55 c /\ z_few_56 c /\ z_few_57 c /\ z_few_58 c /\ z_few_59 c /\ z_few_60 c /\ z_few_61 c /\ z_few_62 c /\ z_few_42 /\ zNt = zNt /\ z_few_63 c /\ z_few_64 c /\ z_few_65 c /\
 z_few_197 c a_4 a_2 /\ (∀ (i : Nat), z_few_157 i c a_4 -> z_few_158 c a_4 i = gD (fwK c a_2.i).q i) /\ z_few_198 c a_4 a_2 /\ ∀ (i : Nat), z_few_159 i c a_4 -> z_few_161 c a_4 i = z_few_187 c a_2 i /\ z_few_162 c a_4 i =
 z_few_188 c a_2 i) /\ z_few_164 a_4 c a) /\ z_few_180 c a /\ z_few_180 c a else ∃ (a_2 : One), ((fwE c).q.length = (fwK c a).q.length /\ (0 : Nat) + (fwK c a).q.length <= (fwK c a).q.length /\ (∀ (j : Nat), j < (fwE
 c).q.length -> gD (fwE c).q j = gD (fwK c a).q (z_few_79 j)) /\ (fwE c).r.length = (fwK c a).r.length /\ (0 : Nat) + (fwK c a).r.length <= (fwK c a).r.length /\ (∀ (j : Nat), j < (fwE c).r.length -> (gD (fwE c).r j).a =
 (z_few_199 c a j).a /\ (gD (fwE c).r j).b = (z_few_199 c a j).b) /\ z_few_80 c) /\ True) /\ z_few_261 c /\ z_few_261 c) := by kernel_rfl
theorem dPr_m (a b : Int) : dPr (.agg [eInt a, .v (.int .i64 b)]) = ⟨a, b⟩ := rfl
theorem newD_eta (c : Cht) : Dk.mk c (newD c).st (newD c).sp = newD c := rfl
theorem mi_in {c : Cht} (h : nsIn c) : ∀ i, i < c.ns.length -> 0 <= (gD c.ns i).mi /\ (gD c.ns i).mi < c.ms.length := λ i hi => h _ (List.any_eq_true.2 ⟨_, gD_mem hi, by simp⟩)
theorem idL_len (n : Nat) : (idL n).length = n := by unfold idL; simp
theorem ordL_perm (c : Cht) : (ordL c).Perm (idL c.ns.length) := stM_perm _ _
theorem ordL_len (c : Cht) : (ordL c).length = c.ns.length := by rw [(ordL_perm c).length_eq, idL_len]
theorem ordL_in (c : Cht) {i : Nat} (hi : i < c.ns.length) : 0 <= gD (ordL c) i /\ gD (ordL c) i < c.ns.length := by
 have hm : gD (ordL c) i ∈ idL c.ns.length := (ordL_perm c).mem_iff.1 (gD_mem (by rw [ordL_len]; exact hi))
 obtain ⟨k, hk, e⟩ := mem_gD hm
 rw [idL_len] at hk
 have e2 : gD (idL c.ns.length) k = (k : Int) := rng_get _ _ _ hk
 rw [<- e, e2]; omega
theorem fw_no {c : Cht} {k : Nat} (hk : k <= c.ns.length) (h : ∀ t, t < k -> fwP c (fwK c k).la (gD (ordL c) k) (gD (ordL c) t) = false) : fwK c (k + 1) = fwK c k := by
 show fwN c (fwK c k) _ (((ordL c).take k).find? _) = _
 rw [find_no]
 ·rfl
 ·intro t ht
  have ht : t < k := by rw [List.length_take] at ht; omega
  rw [gD_take ht]; exact h t ht
theorem fw_at {c : Cht} {k j : Nat} (hk : k <= c.ns.length) (hj : j < k) (h : ∀ t, t < j -> fwP c (fwK c k).la (gD (ordL c) k) (gD (ordL c) t) = false) (h2 : fwP c (fwK c k).la (gD (ordL c) k) (gD (ordL c) j) = true) : fwK c (k + 1) = ⟨wr (miA c (gD (ordL c) k) - 1), (fwK c k).q ++ [wr (miA c (gD (ordL c) k) - 1)], (fwK c k).r ++ [⟨gD (ordL c) j, gD (ordL c) k⟩]⟩ := by
 have e : (((ordL c).take k).find? (fwP c (fwK c k).la (gD (ordL c) k))) = some (gD ((ordL c).take k) j) := find_at (by rw [List.length_take, ordL_len]; omega) (λ t ht => by rw [gD_take (by omega)]; exact h t ht) (by rw [gD_take hj]; exact h2)
 show fwN c (fwK c k) _ (((ordL c).take k).find? _) = _
 rw [e, gD_take hj]; rfl
theorem fw_len (c : Cht) : ∀ k, (fwK c k).q.length <= k /\ (fwK c k).r.length = (fwK c k).q.length
 | 0 => ⟨Nat.le_refl _, rfl⟩
 | k + 1 => by
  obtain ⟨h1, h2⟩ := fw_len c k
  show (fwN c (fwK c k) _ (((ordL c).take k).find? _)).q.length <= _ /\ (fwN c (fwK c k) _ (((ordL c).take k).find? _)).r.length = (fwN c (fwK c k) _ (((ordL c).take k).find? _)).q.length
  cases ((ordL c).take k).find? (fwP c (fwK c k).la (gD (ordL c) k)) with
  | none => exact ⟨by show (fwK c k).q.length <= _; omega, h2⟩
  | some a =>
   refine ⟨?_, ?_⟩
   ·show ((fwK c k).q ++ [_]).length <= _
    rw [List.length_append]; simp; omega
   ·show ((fwK c k).r ++ [_]).length = ((fwK c k).q ++ [_]).length
    rw [List.length_append, List.length_append]; simp; omega
theorem gD_last {α : Type} [Inhabited α] (l : List α) (x : α) (i : Nat) (h : i < l.length + 1) : gD (l ++ [x]) i = bif decide (i < l.length) then gD l i else x := by
 rw [gD_append]
 by_cases h2 : i < l.length
 ·simp [h2]
 ·have : i - l.length = 0 := by omega
  rw [if_neg h2, this, decide_eq_false h2]; rfl
theorem p_few (c : Cht) (h1 : c.ms.length < 4611686018427387904 /\ c.ns.length < 4611686018427387904) (h0 : checkC c = 0) (hn : 1 <= c.ns.length /\ c.ns.length <= 12) : V_few c := by
 have hl := headC_len h0
 have hs := nsIn_of h0
 have hM := mi_in hs.1
 have hO := ordL_len c
 have hR := λ i (h : i < c.ns.length) => ordL_in c h
 have hF := fw_len c
 rw [vc_few]; delta z_few_0 z_few_1 z_few_2 z_few_3 z_few_4 z_few_5 z_few_6 z_few_7 z_few_8 z_few_9 z_few_10 z_few_11 z_few_12 z_few_13 z_few_14 z_few_15 z_few_16 z_few_17 z_few_18 z_few_19 z_few_20 z_few_21 z_few_22 z_few_23 z_few_24 z_few_25 z_few_26 z_few_27 z_few_28 z_few_29 z_few_30 z_few_31 z_few_32 z_few_33 z_few_34 z_few_35 z_few_36 z_few_37 z_few_38 z_few_39 z_few_40 z_few_41 z_few_42 z_few_43 z_few_44 z_few_45 z_few_46 z_few_47 z_few_48 z_few_49 z_few_50 z_few_51 z_few_52 z_few_53 z_few_54 z_few_55 z_few_56 z_few_57 z_few_58 z_few_59 z_few_60 z_few_61 z_few_62 z_few_63 z_few_64 z_few_65 z_few_66 z_few_67 z_few_68 z_few_69 z_few_70 z_few_71 z_few_72 z_few_73 z_few_74 z_few_75 z_few_76 z_few_77 z_few_78 z_few_79 z_few_80 z_few_81 z_few_82 z_few_83 z_few_84 z_few_85 z_few_86 z_few_87 z_few_88 z_few_89 z_few_90 z_few_91 z_few_92 z_few_93 z_few_94 z_few_95 z_few_96 z_few_97 z_few_98 z_few_99 z_few_100 z_few_101 z_few_102 z_few_103 z_few_104 z_few_105 z_few_106 z_few_107 z_few_108 z_few_109 z_few_110 z_few_111 z_few_112 z_few_113 z_few_114 z_few_115 z_few_116 z_few_117 z_few_118 z_few_119 z_few_120 z_few_121 z_few_122 z_few_123 z_few_124 z_few_125 z_few_126 z_few_127 z_few_128 z_few_129 z_few_130 z_few_131 z_few_132 z_few_133 z_few_134 z_few_135 z_few_136 z_few_137 z_few_138 z_few_139 z_few_140 z_few_141 z_few_142 z_few_143 z_few_144 z_few_145 z_few_146 z_few_147 z_few_148 z_few_149 z_few_150 z_few_151 z_few_152 z_few_153 z_few_154 z_few_155 z_few_156 z_few_157 z_few_158 z_few_159 z_few_160 z_few_161 z_few_162 z_few_163 z_few_164 z_few_165 z_few_166 z_few_167 z_few_168 z_few_169 z_few_170 z_few_171 z_few_172 z_few_173 z_few_174 z_few_175 z_few_176 z_few_177 z_few_178 z_few_179 z_few_180 z_few_181 z_few_182 z_few_183 z_few_184 z_few_185 z_few_186 z_few_187 z_few_188 z_few_189 z_few_190 z_few_191 z_few_192 z_few_193 z_few_194 z_few_195 z_few_196 z_few_197 z_few_198 z_few_199 z_few_200 z_few_201 z_few_202 z_few_203 z_few_204 z_few_205 z_few_206 z_few_207 z_few_208 z_few_209 z_few_210 z_few_211 z_few_212 z_few_213 z_few_214 z_few_215 z_few_216 z_few_217 z_few_218 z_few_219 z_few_220 z_few_221 z_few_222 z_few_223 z_few_224 z_few_225 z_few_226 z_few_227 z_few_228 z_few_229 z_few_230 z_few_231 z_few_232 z_few_233 z_few_234 z_few_235 z_few_236 z_few_237 z_few_238 z_few_239 z_few_240 z_few_241 z_few_242 z_few_243 z_few_244 z_few_245 z_few_246 z_few_247 z_few_248 z_few_249 z_few_250 z_few_251 z_few_252 z_few_253 z_few_254 z_few_255 z_few_256 z_few_257 z_few_258 z_few_259 z_few_260 z_few_261; simp only [condP, eq_self, implies_true, and_self, true_and, and_true, true_implies, forall_const, decide_eq_true_eq, decide_eq_false_iff_not, Int.toNat_natCast, dSpan_eSpan, dInt_eInt, dMk_e, dNt_e, dPr_e, Nat.zero_add, Int.zero_sub, Nat.le_eq, Nat.succ_eq_add_one, Nat.add_one_le_iff, Bool.not_eq_true', Bool.not_eq_false', rng_length, dSpan_mk, rng_getD, cht_eta, newD_c, dk_eta, stD_c, newD_eta, dPr_m]
 have hI : ∀ i, i < c.ns.length -> gD (rng c.ns.length λ i => (i : Int)) i = (i : Int) := λ i hi => rng_get _ _ _ hi
 have hT : ∀ k j, j < k -> gD ((ordL c).take k) j = gD (ordL c) j := λ k j h => gD_take h
 have hTl : ∀ k, k <= c.ns.length -> ((ordL c).take k).length = k := λ k h => by rw [List.length_take, hO]; omega
 have pre : ∀ x ∈ [0], True := λ _ _ => trivial
 refine ⟨⟨h1, h0⟩, ⟨⟨⟨default, trivial⟩, ?_, ?_⟩, λ _ => ⟨⟨⟨hI, hn.2, by omega, ?_⟩, default, hO, Nat.le_refl _, λ _ _ => rfl⟩, ⟨⟨0, ⟨rfl, by rw [hO], rfl⟩, Nat.zero_le _, rfl⟩, ?_, ?_⟩, ?_⟩⟩⟩
 ·refine ⟨λ _ => ⟨by decide, 1, ⟨rfl, by decide, rfl, λ i hi => by omega⟩, by omega, by omega⟩, λ h => h (by omega)⟩
 ·intro a ha
  refine ⟨λ h => ⟨⟨Nat.one_pos, (λ h => by cases h), by omega, by omega⟩, a + 1, ⟨rfl, by rw [w64 (by omega) (by omega)]; rfl, rfl, λ i hi => ?_⟩, by omega, by omega⟩, λ h => ⟨default, by omega, by omega⟩⟩
  by_cases h2 : i < a
  ·rw [decide_eq_true h2]; rfl
  ·rw [decide_eq_false h2]; show (i : Int) = a; omega
 ·intro i hi; rw [hI i hi]; omega
 ·rintro k ⟨hk, hq⟩
  refine ⟨λ h => ?_, λ h => ?_⟩
  ·have hk2 : k < c.ns.length := by omega
   refine ⟨⟨⟨by omega, by omega⟩, ⟨by omega, by omega, by omega⟩, ⟨⟨k, 0⟩, ⟨rfl, hTl k hk, λ i hi => ?_, rfl, rfl, rfl, rfl⟩, ⟨hk2, rfl, Nat.zero_le _, λ t ht => absurd ht (Nat.not_lt_zero _)⟩, hq⟩, ?_⟩, ?_, ?_⟩
   ·rw [hT _ _ (by have hi : i < ((ordL c).take k).length := hi; rw [hTl k hk] at hi; exact hi), show Int.toNat 0 = 0 from rfl, Nat.zero_add]
   ·rintro y ⟨⟨y1, y2, y3, y4⟩, y5⟩
    have hp : ∀ j, j < y.i -> (bif decide ((gD c.ns (gD ((ordL c).take y.i) j).toNat).mi > (fwK c y.i).la) then lateM c { a := gD ((ordL c).take y.i) j, b := gD (ordL c) y.i } else false) = fwP c (fwK c y.i).la (gD (ordL c) y.i) (gD (ordL c) j) := λ j hj => by rw [hT _ _ hj]; rfl
    refine ⟨λ hj => ⟨⟨by omega, by rw [hTl _ (by omega)]; exact hj⟩, ⟨by rw [hT _ _ (by omega)]; exact hR _ (by omega), λ _ => ⟨⟨by rw [hT _ _ (by omega)]; exact hR _ (by omega), hR _ y1⟩, ⟨hl.2.1.2, hl.2.2⟩, hM⟩⟩, λ hc => ?_, λ hc => ?_⟩, λ hj => ?_⟩
    ·rw [hp _ (by omega)] at hc
     have e := fw_at (by omega) (by omega) y4 hc
     rw [hT _ _ (by omega)]
     have h8 : (fwK c y.i).r = [] := List.length_eq_zero_iff.1 (by rw [(hF y.i).2, y5]; rfl)
     refine ⟨hR _ y1, by decide, y.i, ?_, y1, y2, ?_⟩
     ·rw [e, y5, h8]
      refine ⟨rfl, rfl, rfl, rfl, rfl, λ i hi => ?_, rfl, λ i hi => ?_⟩
      ·have hi : i < 1 := hi
       obtain rfl : i = 0 := by omega
       rfl
      ·have hi : i < 1 := hi
       obtain rfl : i = 0 := by omega
       exact ⟨rfl, rfl⟩
     ·rw [e, y5]; exact Nat.one_pos
    ·rw [hp _ (by omega)] at hc
     have e : IntKind.i64.wrap ((y.j : Int) + 1) = ((y.j + 1 : Nat) : Int) := by rw [w64 (by omega) (by omega)]; rfl
     refine ⟨⟨y.i, y.j + 1⟩, ⟨rfl, rfl, λ _ _ => rfl, rfl, e.symm, rfl, rfl⟩, ⟨⟨y1, y2, by show y.j + 1 <= y.i; omega, λ t ht => ?_⟩, y5⟩, by show _ - (y.j + 1) < _; omega⟩
     have ht : t < y.j + 1 := ht
     by_cases h2 : t = y.j
     ·subst h2; exact hc
     ·exact y4 t (by omega)
    ·have e := fw_no (by omega) (λ t (ht : t < y.i) => y4 t (by omega))
     refine ⟨y.i, ?_, y1, y2, ?_⟩
     ·rw [e]; exact ⟨rfl, rfl⟩
     ·rw [e]; exact y5
   ·rintro k' ⟨g1, g2, g3⟩
    refine ⟨k' + 1, ⟨rfl, by rw [w64 (by omega) (by omega)]; rfl⟩, ⟨by omega, g3⟩, by omega⟩
   ·rintro k' ⟨g1, g2, g3⟩
    refine ⟨k' + 1, ⟨rfl, rfl, rfl, by rw [w64 (by omega) (by omega)]; rfl, rfl, λ _ _ => rfl, rfl, λ _ _ => ⟨rfl, rfl⟩⟩, ⟨by omega, g3⟩, by omega⟩
  ·have e : k = c.ns.length := by omega
   have h8 : (fwK c k).r = [] := List.length_eq_zero_iff.1 (by rw [(hF k).2, hq]; rfl)
   subst e
   exact ⟨default, by show (fwK c _).q.length = 0; rw [hq]; rfl, by show (fwK c _).q.length = 0; rw [hq]; rfl, by show (fwK c _).r.length = 0; rw [h8]; rfl⟩
 ·rintro k ⟨hk, hq⟩
  refine ⟨λ h => ?_, λ h => ?_⟩
  ·have hk2 : k < c.ns.length := by omega
   refine ⟨⟨⟨by omega, by omega⟩, ⟨by omega, by omega, by omega⟩, ⟨⟨k, 0⟩, ⟨rfl, hTl k hk, λ i hi => ?_, rfl, rfl, rfl, rfl, rfl, rfl, rfl, λ _ _ => rfl, rfl, λ _ _ => ⟨rfl, rfl⟩⟩, ⟨hk2, rfl, Nat.zero_le _, λ t ht => absurd ht (Nat.not_lt_zero _)⟩, hq⟩, ?_⟩, ?_⟩
   ·rw [hT _ _ (by have hi : i < ((ordL c).take k).length := hi; rw [hTl k hk] at hi; exact hi), show Int.toNat 0 = 0 from rfl, Nat.zero_add]
   ·rintro y ⟨⟨y1, y2, y3, y4⟩, y5⟩
    have hp : ∀ j, j < y.i -> (bif decide ((gD c.ns (gD ((ordL c).take y.i) j).toNat).mi > (fwK c y.i).la) then lateM c { a := gD ((ordL c).take y.i) j, b := gD (ordL c) y.i } else false) = fwP c (fwK c y.i).la (gD (ordL c) y.i) (gD (ordL c) j) := λ j hj => by rw [hT _ _ hj]; rfl
    refine ⟨λ hj => ⟨⟨by omega, by rw [hTl _ (by omega)]; exact hj⟩, ⟨by rw [hT _ _ (by omega)]; exact hR _ (by omega), λ _ => ⟨⟨by rw [hT _ _ (by omega)]; exact hR _ (by omega), hR _ y1⟩, ⟨hl.2.1.2, hl.2.2⟩, hM⟩⟩, λ hc => ?_, λ hc => ?_⟩, λ hj => ?_⟩
    ·rw [hp _ (by omega)] at hc
     have e := fw_at (by omega) (by omega) y4 hc
     rw [hT _ _ (by omega)]
     have h9 := hF y.i
     refine ⟨hR _ y1, ⟨⟨Nat.one_pos, (λ h => by cases h), by omega, by omega⟩, Nat.one_pos, (λ h => by cases h), by omega, by omega⟩, y.i, ?_, y1, y2, ?_⟩
     ·rw [e]
      refine ⟨by simp, by simp, rfl, rfl, by simp, λ i hi => ?_, by simp, λ i hi => ?_⟩
      ·exact gD_last _ _ _ (by simpa using hi)
      ·have hi2 : i < (fwK c y.i).r.length + 1 := by simpa using hi
       show (gD ((fwK c y.i).r ++ [_]) i).a = _ /\ (gD ((fwK c y.i).r ++ [_]) i).b = _
       rw [gD_last _ _ _ hi2]
       cases decide (i < (fwK c y.i).r.length) <;> exact ⟨rfl, rfl⟩
     ·rw [e]; simp
    ·rw [hp _ (by omega)] at hc
     have e : IntKind.i64.wrap ((y.j : Int) + 1) = ((y.j + 1 : Nat) : Int) := by rw [w64 (by omega) (by omega)]; rfl
     refine ⟨⟨y.i, y.j + 1⟩, ⟨rfl, rfl, λ _ _ => rfl, rfl, e.symm, rfl, rfl, rfl, rfl, rfl, λ _ _ => rfl, rfl, λ _ _ => ⟨rfl, rfl⟩⟩, ⟨⟨y1, y2, by show y.j + 1 <= y.i; omega, λ t ht => ?_⟩, y5⟩, by show _ - (y.j + 1) < _; omega⟩
     have ht : t < y.j + 1 := ht
     by_cases h2 : t = y.j
     ·subst h2; exact hc
     ·exact y4 t (by omega)
    ·have e := fw_no (by omega) (λ t (ht : t < y.i) => y4 t (by omega))
     refine ⟨y.i, ?_, y1, y2, ?_⟩
     ·rw [e]; exact ⟨rfl, rfl, rfl, rfl, rfl, λ _ _ => rfl, rfl, λ _ _ => ⟨rfl, rfl⟩⟩
     ·rw [e]; exact y5
   ·rintro k' ⟨g1, g2, g3⟩
    refine ⟨k' + 1, ⟨rfl, rfl, rfl, by rw [w64 (by omega) (by omega)]; rfl, rfl, λ _ _ => rfl, rfl, λ _ _ => ⟨rfl, rfl⟩⟩, ⟨by omega, g3⟩, by omega⟩
  ·have e : k = c.ns.length := by omega
   subst e
   exact ⟨default, rfl, Nat.le_refl _, λ _ _ => rfl, rfl, Nat.le_refl _, λ _ _ => ⟨rfl, rfl⟩⟩
 ·have h9 := hF c.ns.length
  refine ⟨⟨λ _ => rfl, by have : (fwE c).q.length <= c.ns.length := h9.1; omega, hl.2.1.2⟩, ⟨hl.2.1.1, hl.2.1.2, hs.1⟩, λ hc => ?_, λ hc => ?_⟩
  ·have hc : (timesV (fwW c)).2 = false := hc
   unfold fwO; rw [hc]; exact ⟨rfl, rfl, rfl, rfl, rfl⟩
  ·have hc : (timesV (fwW c)).2 = true := hc
   unfold fwO; rw [hc]; exact ⟨rfl, λ _ _ => rfl, rfl, λ _ _ => ⟨rfl, rfl⟩, rfl⟩
def C_insZ : Ctr := { ro := [100], α := Cht, xs := λ _ => [.d nilL, .int 0, .int 0, .fn (.func n_few1) [] [.bptr 100 0]], L := λ c => [(100, chB c)], val := λ _ => .d (.tup []), keep := λ c => [(100, .live (chB c))] }
def d_insZ : List AVal -> Heap -> Option (Cht × List (Nat × Nat) × List Nat)
 | [.d _, _, _, .fn _ _ [.bptr id _]], H => match decChB H id with
  | some q => some (q, [(100, id)], [])
  | none => none
 | _, _ => none
def iz1 (c : Cht) : Shape := { α := One, dflt := default, T := λ _ => ⟨[(0, .d nilL), (1, .int 0), (2, .int 0), (3, .fn (.func n_few1) [] [.bptr 100 0]), (8, .int 1)], [(100, .live (chB c))]⟩, inv := λ _ => True, meas := λ _ => 0 }
def A_insZ (c : Cht) : Ann := { ann 53 [] with E := [100], loops := λ id => if id = 1 then some [iz1 c] else none }
def V_insZ (c : Cht) : Prop := fnVC Try.prog (A_insZ c) F_insI (bodyOf F_insI) (C_insZ.xs c) (heapOf (C_insZ.L c)) (C_insZ.val c) (C_insZ.keep c) [] []
theorem vc_insZ (c : Cht) : (V_insZ c) = ((∃ (a : One), ((0 : Nat) = (0 : Nat) /\ (∀ (i : Nat), i < (0 : Nat) -> false = false) /\ Int.ofNat (0 : Nat) = Int.ofNat (0 : Nat) /\ Int.ofNat (0 : Nat) = Int.ofNat (0 : Nat) /\
 Int.ofNat (1 : Nat) = Int.ofNat (((0 : Nat) + (1 : Nat)) % ((2 : Int) ^ IntKind.i64.bits).natAbs) /\ c.p.lo = c.p.lo /\ c.p.hi = c.p.hi /\ c.base = c.base /\ c.scale = c.scale /\ c.off = c.off /\ c.ms.length = c.ms.length /\ (∀
 (i : Nat), i < c.ms.length -> (gD c.ms i).pl = (gD c.ms i).pl /\ (gD c.ms i).ht = (gD c.ms i).ht) /\ c.ns.length = c.ns.length /\ ∀ (i : Nat), i < c.ns.length -> (gD c.ns i).mi = (gD c.ns i).mi /\ (gD c.ns i).t.lo = (gD c.ns
 i).t.lo /\ (gD c.ns i).t.hi = (gD c.ns i).t.hi /\ (gD c.ns i).s.lo = (gD c.ns i).s.lo /\ (gD c.ns i).s.hi = (gD c.ns i).s.hi) /\ True) /\ ∀ (a : One), True -> c.p.lo = c.p.lo /\ c.p.hi = c.p.hi /\ c.base = c.base /\ c.scale =
 c.scale /\ c.off = c.off /\ c.ms.length = c.ms.length /\ (∀ (i : Nat), i < c.ms.length -> (gD c.ms i).pl = (gD c.ms i).pl /\ (gD c.ms i).ht = (gD c.ms i).ht) /\ c.ns.length = c.ns.length /\ ∀ (i : Nat), i < c.ns.length -> (gD
 c.ns i).mi = (gD c.ns i).mi /\ (gD c.ns i).t.lo = (gD c.ns i).t.lo /\ (gD c.ns i).t.hi = (gD c.ns i).t.hi /\ (gD c.ns i).s.lo = (gD c.ns i).s.lo /\ (gD c.ns i).s.hi = (gD c.ns i).s.hi) := by kernel_rfl
theorem ok_insZ : SpecOk Try.prog n_insI (C_insZ.spec d_insZ) := okC C_insZ A_insZ [] [] fn_insI (λ _ => by kernel_rfl) (λ _ => gok_nil) (λ (c : Cht) _ => by
 show V_insZ c; rw [vc_insZ]; exact ⟨⟨default, by simp; rfl, trivial⟩, λ _ _ => by simp⟩) (λ _ => noI rfl rfl) _
def C_pdqZ : Ctr := { ro := [100], α := Cht, xs := λ _ => [.d nilL, .int 0, .int 0, .any, .fn (.func n_few1) [] [.bptr 100 0]], L := λ c => [(100, chB c)], val := λ _ => .d (.tup []), keep := λ c => [(100, .live (chB c))] }
def d_pdqZ : List AVal -> Heap -> Option (Cht × List (Nat × Nat) × List Nat)
 | [.d _, _, _, _, .fn _ _ [.bptr id _]], H => match decChB H id with
  | some q => some (q, [(100, id)], [])
  | none => none
 | _, _ => none
def pz2 (c : Cht) : Shape := { α := One, dflt := default, T := λ _ => ⟨[(0, .d nilL), (1, .int 0), (2, .int 0), (3, .any), (4, .fn (.func n_few1) [] [.bptr 100 0]), (10, .bool true), (11, .bool true)], [(100, .live (chB c))]⟩, inv := λ _ => True, meas := λ _ => 0 }
def A_pdqZ (c : Cht) : Ann := { ann 148 [(n_insI, C_insZ.spec d_insZ)] with E := [100], loops := λ id => if id = 2 then some [pz2 c] else none }
def V_pdqZ (c : Cht) : Prop := fnVC Try.prog (A_pdqZ c) F_pdq (bodyOf F_pdq) (C_pdqZ.xs c) (heapOf (C_pdqZ.L c)) (C_pdqZ.val c) (C_pdqZ.keep c) [] []
theorem vc_pdqZ (c : Cht) : (V_pdqZ c) = ((∃ (a : One), ((0 : Nat) = (0 : Nat) /\ (∀ (i : Nat), i < (0 : Nat) -> false = false) /\ Int.ofNat (0 : Nat) = Int.ofNat (0 : Nat) /\ Int.ofNat (0 : Nat) = Int.ofNat (0 : Nat) /\ true
 = true /\ true = true /\ c.p.lo = c.p.lo /\ c.p.hi = c.p.hi /\ c.base = c.base /\ c.scale = c.scale /\ c.off = c.off /\ c.ms.length = c.ms.length /\ (∀ (i : Nat), i < c.ms.length -> (gD c.ms i).pl = (gD c.ms i).pl /\ (gD c.ms
 i).ht = (gD c.ms i).ht) /\ c.ns.length = c.ns.length /\ ∀ (i : Nat), i < c.ns.length -> (gD c.ns i).mi = (gD c.ns i).mi /\ (gD c.ns i).t.lo = (gD c.ns i).t.lo /\ (gD c.ns i).t.hi = (gD c.ns i).t.hi /\ (gD c.ns i).s.lo = (gD
 c.ns i).s.lo /\ (gD c.ns i).s.hi = (gD c.ns i).s.hi) /\ True) /\ ∀ (a : One), True -> ((0 : Nat) = (0 : Nat) /\ (∀ (i : Nat), i < (0 : Nat) -> false = false) /\ Int.ofNat (0 : Nat) = Int.ofNat (0 : Nat) /\ Int.ofNat (0 : Nat) =
 Int.ofNat (0 : Nat) /\ c.p.lo = c.p.lo /\ c.p.hi = c.p.hi /\ c.base = c.base /\ c.scale = c.scale /\ c.off = c.off /\ (rng c.ms.length λ (i : Nat) => gD c.ms i).length = c.ms.length /\ (∀ (i : Nat), i < (rng c.ms.length fun
 (i : Nat) => gD c.ms i).length -> (gD (rng c.ms.length λ (i : Nat) => gD c.ms i) i).pl = (gD c.ms i).pl /\ (gD (rng c.ms.length λ (i : Nat) => gD c.ms i) i).ht = (gD c.ms i).ht) /\ (rng c.ns.length λ (i : Nat) => gD
 c.ns i).length = c.ns.length /\ (∀ (i : Nat), i < (rng c.ns.length λ (i : Nat) => gD c.ns i).length -> (gD (rng c.ns.length λ (i : Nat) => gD c.ns i) i).mi = (gD c.ns i).mi /\ (gD (rng c.ns.length λ (i : Nat) => gD
 c.ns i) i).t.lo = (gD c.ns i).t.lo /\ (gD (rng c.ns.length λ (i : Nat) => gD c.ns i) i).t.hi = (gD c.ns i).t.hi /\ (gD (rng c.ns.length λ (i : Nat) => gD c.ns i) i).s.lo = (gD c.ns i).s.lo /\ (gD (rng c.ns.length λ (i
 : Nat) => gD c.ns i) i).s.hi = (gD c.ns i).s.hi) /\ c.p.lo = c.p.lo /\ c.p.hi = c.p.hi /\ c.base = c.base /\ c.scale = c.scale /\ c.off = c.off /\ c.ms.length = (rng c.ms.length λ (i : Nat) => gD c.ms i).length /\ (∀ (i :
 Nat), i < c.ms.length -> (gD c.ms i).pl = (gD (rng c.ms.length λ (i : Nat) => gD c.ms i) i).pl /\ (gD c.ms i).ht = (gD (rng c.ms.length λ (i : Nat) => gD c.ms i) i).ht) /\ c.ns.length = (rng c.ns.length λ (i : Nat) =>
 gD c.ns i).length /\ ∀ (i : Nat), i < c.ns.length -> (gD c.ns i).mi = (gD (rng c.ns.length λ (i : Nat) => gD c.ns i) i).mi /\ (gD c.ns i).t.lo = (gD (rng c.ns.length λ (i : Nat) => gD c.ns i) i).t.lo /\ (gD c.ns i).t.hi
 = (gD (rng c.ns.length λ (i : Nat) => gD c.ns i) i).t.hi /\ (gD c.ns i).s.lo = (gD (rng c.ns.length λ (i : Nat) => gD c.ns i) i).s.lo /\ (gD c.ns i).s.hi = (gD (rng c.ns.length λ (i : Nat) => gD c.ns i) i).s.hi) /\
 c.p.lo = c.p.lo /\ c.p.hi = c.p.hi /\ c.base = c.base /\ c.scale = c.scale /\ c.off = c.off /\ c.ms.length = c.ms.length /\ (∀ (i : Nat), i < c.ms.length -> (gD c.ms i).pl = (gD c.ms i).pl /\ (gD c.ms i).ht = (gD c.ms i).ht) /\
 c.ns.length = c.ns.length /\ ∀ (i : Nat), i < c.ns.length -> (gD c.ns i).mi = (gD c.ns i).mi /\ (gD c.ns i).t.lo = (gD c.ns i).t.lo /\ (gD c.ns i).t.hi = (gD c.ns i).t.hi /\ (gD c.ns i).s.lo = (gD c.ns i).s.lo /\ (gD c.ns
 i).s.hi = (gD c.ns i).s.hi) := by kernel_rfl
theorem ok_pdqZ : SpecOk Try.prog n_pdq (C_pdqZ.spec d_pdqZ) := okC C_pdqZ A_pdqZ [] [] fn_pdq (λ _ => by kernel_rfl) (λ _ => gok_cons ok_insZ gok_nil) (λ (c : Cht) _ => by
 show V_pdqZ c; rw [vc_pdqZ]; simp only [condP, eq_self, implies_true, and_self, true_and, and_true, true_implies, forall_const, decide_eq_true_eq, decide_eq_false_iff_not, Int.toNat_natCast, dSpan_eSpan, dInt_eInt, dMk_e, dNt_e, dPr_e, Nat.zero_add, Int.zero_sub, Nat.le_eq, Nat.succ_eq_add_one, Nat.add_one_le_iff, Bool.not_eq_true', Bool.not_eq_false', rng_length, dSpan_mk, rng_getD]; exact ⟨default, trivial⟩) (λ _ => noI rfl rfl) _
def C_sortZ : Ctr := { ro := [100], α := Cht, xs := λ _ => [.d nilL, .fn (.func n_few1) [] [.bptr 100 0]], L := λ c => [(100, chB c)], val := λ _ => .d (.tup []), keep := λ c => [(100, .live (chB c))] }
def d_sortZ : List AVal -> Heap -> Option (Cht × List (Nat × Nat) × List Nat)
 | [.d _, .fn _ _ [.bptr id _]], H => match decChB H id with
  | some q => some (q, [(100, id)], [])
  | none => none
 | _, _ => none
def A_sortZ : Ann := { ann 14 [(n_bLen, s_len), (n_pdq, C_pdqZ.spec d_pdqZ)] with E := [100] }
def V_sortZ (c : Cht) : Prop := fnVC Try.prog A_sortZ F_sortI (bodyOf F_sortI) (C_sortZ.xs c) (heapOf (C_sortZ.L c)) (C_sortZ.val c) (C_sortZ.keep c) [] []
theorem vc_sortZ (c : Cht) : (V_sortZ c) = ((((0 : Int) <= IntKind.u64.wrap (↑(0 : Nat) : Int) /\ IntKind.u64.wrap (↑(0 : Nat) : Int) <= (20 : Int)) /\ (0 : Nat) = (0 : Nat) /\ (∀ (i : Nat), i < (0 : Nat) -> false = false) /\
 Int.ofNat (0 : Nat) = Int.ofNat (0 : Nat) /\ Int.ofNat (0 : Nat) = Int.ofNat (0 : Nat) /\ c.p.lo = c.p.lo /\ c.p.hi = c.p.hi /\ c.base = c.base /\ c.scale = c.scale /\ c.off = c.off /\ (rng c.ms.length λ (i : Nat) => gD c.ms
 i).length = c.ms.length /\ (∀ (i : Nat), i < (rng c.ms.length λ (i : Nat) => gD c.ms i).length -> (gD (rng c.ms.length λ (i : Nat) => gD c.ms i) i).pl = (gD c.ms i).pl /\ (gD (rng c.ms.length λ (i : Nat) => gD c.ms i)
 i).ht = (gD c.ms i).ht) /\ (rng c.ns.length λ (i : Nat) => gD c.ns i).length = c.ns.length /\ (∀ (i : Nat), i < (rng c.ns.length λ (i : Nat) => gD c.ns i).length -> (gD (rng c.ns.length λ (i : Nat) => gD c.ns i) i).mi
 = (gD c.ns i).mi /\ (gD (rng c.ns.length λ (i : Nat) => gD c.ns i) i).t.lo = (gD c.ns i).t.lo /\ (gD (rng c.ns.length λ (i : Nat) => gD c.ns i) i).t.hi = (gD c.ns i).t.hi /\ (gD (rng c.ns.length λ (i : Nat) => gD c.ns
 i) i).s.lo = (gD c.ns i).s.lo /\ (gD (rng c.ns.length λ (i : Nat) => gD c.ns i) i).s.hi = (gD c.ns i).s.hi) /\ c.p.lo = c.p.lo /\ c.p.hi = c.p.hi /\ c.base = c.base /\ c.scale = c.scale /\ c.off = c.off /\ c.ms.length = (rng
 c.ms.length λ (i : Nat) => gD c.ms i).length /\ (∀ (i : Nat), i < c.ms.length -> (gD c.ms i).pl = (gD (rng c.ms.length λ (i : Nat) => gD c.ms i) i).pl /\ (gD c.ms i).ht = (gD (rng c.ms.length λ (i : Nat) => gD c.ms i)
 i).ht) /\ c.ns.length = (rng c.ns.length λ (i : Nat) => gD c.ns i).length /\ ∀ (i : Nat), i < c.ns.length -> (gD c.ns i).mi = (gD (rng c.ns.length λ (i : Nat) => gD c.ns i) i).mi /\ (gD c.ns i).t.lo = (gD (rng
 c.ns.length λ (i : Nat) => gD c.ns i) i).t.lo /\ (gD c.ns i).t.hi = (gD (rng c.ns.length λ (i : Nat) => gD c.ns i) i).t.hi /\ (gD c.ns i).s.lo = (gD (rng c.ns.length λ (i : Nat) => gD c.ns i) i).s.lo /\ (gD c.ns
 i).s.hi = (gD (rng c.ns.length λ (i : Nat) => gD c.ns i) i).s.hi) /\ c.p.lo = c.p.lo /\ c.p.hi = c.p.hi /\ c.base = c.base /\ c.scale = c.scale /\ c.off = c.off /\ c.ms.length = c.ms.length /\ (∀ (i : Nat), i < c.ms.length ->
 (gD c.ms i).pl = (gD c.ms i).pl /\ (gD c.ms i).ht = (gD c.ms i).ht) /\ c.ns.length = c.ns.length /\ ∀ (i : Nat), i < c.ns.length -> (gD c.ns i).mi = (gD c.ns i).mi /\ (gD c.ns i).t.lo = (gD c.ns i).t.lo /\ (gD c.ns i).t.hi =
 (gD c.ns i).t.hi /\ (gD c.ns i).s.lo = (gD c.ns i).s.lo /\ (gD c.ns i).s.hi = (gD c.ns i).s.hi) := by kernel_rfl
theorem ok_sortZ : SpecOk Try.prog n_sortI (C_sortZ.spec d_sortZ) := okC C_sortZ (λ _ => A_sortZ) [] [] fn_sortI (λ _ => by kernel_rfl) (λ _ => gok_cons ok_len (gok_cons ok_pdqZ gok_nil)) (λ (c : Cht) _ => by
 show V_sortZ c; rw [vc_sortZ]; simp only [condP, eq_self, implies_true, and_self, true_and, and_true, true_implies, forall_const, decide_eq_true_eq, decide_eq_false_iff_not, Int.toNat_natCast, dSpan_eSpan, dInt_eInt, dMk_e, dNt_e, dPr_e, Nat.zero_add, Int.zero_sub, Nat.le_eq, Nat.succ_eq_add_one, Nat.add_one_le_iff, Bool.not_eq_true', Bool.not_eq_false', rng_length, dSpan_mk, rng_getD]; rw [u64w (by omega) (by omega)]; omega) (λ _ => noI rfl rfl) _
def fz6 (c : Cht) : Shape := { α := One, dflt := default, T := λ _ => ⟨(7, .d nilL) :: fw6S c 0, fwH c⟩, inv := λ _ => c.ns.length = 0, meas := λ _ => 60, first := fwR }
def fz15 (c : Cht) : Shape := { α := One, dflt := default, T := λ _ => ⟨fwNil ++ [(1, .bptr 201 0), (5, .bptr 203 0), (7, .d nilL), (11, .int (-1)), (41, .d nilL), (42, .int 0), (43, .int 0)], fwH c⟩, inv := λ _ => c.ns.length = 0, meas := λ _ => 60 }
def A_fewZ (c : Cht) : Ann := { ann 101 [(n_opened, C_open.spec dC1), (n_sortI, C_sortZ.spec d_sortZ), (n_stop, C_stop.spec dDkZ), (n_times, C_times.spec dDk1)] with loops := λ id => if id = 6 then some [fz6 c] else if id = 15 then some [fz15 c] else none }
def V_fewZ (c : Cht) : Prop := fnVC Try.prog (A_fewZ c) F_fewest (bodyOf F_fewest) [.d (eCht c)] (heapOf []) (.tup [.d (eIntsL (fwO c).q), .d (ePrs (fwO c).r), .int (fwO c).e]) [] [] []
abbrev z_fewZ_0 (c : Cht) : List Mk := rng c.ms.length λ (i : Nat) => gD c.ms i
abbrev z_fewZ_1 (c : Cht) : Nat := (z_fewZ_0 c).length
abbrev z_fewZ_2 (c : Cht) : Prop := z_fewZ_1 c = c.ms.length
abbrev z_fewZ_3 (c : Cht) (i : Nat) : Mk := gD (z_fewZ_0 c) i
abbrev z_fewZ_4 (c : Cht) (i : Nat) : Int := (z_fewZ_3 c i).pl
abbrev z_fewZ_5 (c : Cht) (i : Nat) : Int := (z_fewZ_3 c i).ht
abbrev z_fewZ_6 (c : Cht) : Prop := ∀ (i : Nat), i < z_fewZ_1 c -> z_fewZ_4 c i = (gD c.ms i).pl /\ z_fewZ_5 c i = (gD c.ms i).ht
abbrev z_fewZ_7 (c : Cht) : List Nt := rng c.ns.length λ (i : Nat) => gD c.ns i
abbrev z_fewZ_8 (c : Cht) : Nat := (z_fewZ_7 c).length
abbrev z_fewZ_9 (c : Cht) : Prop := z_fewZ_8 c = c.ns.length
abbrev z_fewZ_10 (c : Cht) (i : Nat) : Nt := gD (z_fewZ_7 c) i
abbrev z_fewZ_11 (c : Cht) (i : Nat) : Int := (z_fewZ_10 c i).mi
abbrev z_fewZ_12 (c : Cht) (i : Nat) : Span := (z_fewZ_10 c i).t
abbrev z_fewZ_13 (c : Cht) (i : Nat) : Int := (z_fewZ_12 c i).lo
abbrev z_fewZ_14 (c : Cht) (i : Nat) : Int := (z_fewZ_12 c i).hi
abbrev z_fewZ_15 (c : Cht) (i : Nat) : Span := (z_fewZ_10 c i).s
abbrev z_fewZ_16 (c : Cht) (i : Nat) : Int := (z_fewZ_15 c i).lo
abbrev z_fewZ_17 (c : Cht) (i : Nat) : Int := (z_fewZ_15 c i).hi
abbrev z_fewZ_18 (c : Cht) : Prop := ∀ (i : Nat), i < z_fewZ_8 c -> z_fewZ_11 c i = (gD c.ns i).mi /\ z_fewZ_13 c i = (gD c.ns i).t.lo /\ z_fewZ_14 c i = (gD c.ns i).t.hi /\ z_fewZ_16 c i = (gD c.ns i).s.lo /\ z_fewZ_17 c i =
 (gD c.ns i).s.hi
abbrev z_fewZ_19 (c : Cht) : Cht := Cht.mk c.p c.base c.scale c.off (z_fewZ_0 c) (z_fewZ_7 c)
abbrev z_fewZ_20 : Prop := (0 : Nat) = (0 : Nat)
abbrev z_fewZ_21 : Prop := ∀ (i : Nat), i < (0 : Nat) -> false = false
abbrev z_fewZ_22 : Prop := Int.ofNat (0 : Nat) = Int.ofNat (0 : Nat)
abbrev z_fewZ_23 (c : Cht) : Prop := c.ms.length = c.ms.length
abbrev z_fewZ_24 (c : Cht) : Prop := ∀ (i : Nat), i < c.ms.length -> (gD c.ms i).pl = (gD c.ms i).pl /\ (gD c.ms i).ht = (gD c.ms i).ht
abbrev z_fewZ_25 (c : Cht) : Prop := c.ns.length = c.ns.length
abbrev z_fewZ_26 (c : Cht) : Prop := ∀ (i : Nat), i < c.ns.length -> (gD c.ns i).mi = (gD c.ns i).mi /\ (gD c.ns i).t.lo = (gD c.ns i).t.lo /\ (gD c.ns i).t.hi = (gD c.ns i).t.hi /\ (gD c.ns i).s.lo = (gD c.ns i).s.lo /\ (gD
 c.ns i).s.hi = (gD c.ns i).s.hi
abbrev z_fewZ_27 (c : Cht) : Dk := newD (z_fewZ_19 c)
abbrev z_fewZ_28 (c : Cht) : Cht := (z_fewZ_27 c).c
abbrev z_fewZ_29 (c : Cht) : Span := (z_fewZ_28 c).p
abbrev z_fewZ_30 (c : Cht) : List Mk := (z_fewZ_28 c).ms
abbrev z_fewZ_31 (i : Nat) (c : Cht) : Prop := i < (newD c).c.ms.length
abbrev z_fewZ_32 (c : Cht) (i : Nat) : Mk := gD (z_fewZ_30 c) i
abbrev z_fewZ_33 (c : Cht) : List Nt := (z_fewZ_28 c).ns
abbrev z_fewZ_34 (i : Nat) (c : Cht) : Prop := i < (newD c).c.ns.length
abbrev z_fewZ_35 (c : Cht) (i : Nat) : Nt := gD (z_fewZ_33 c) i
abbrev z_fewZ_36 (c : Cht) (i : Nat) : Int := (gD (newD c).c.ns i).t.lo
abbrev z_fewZ_37 (c : Cht) (i : Nat) : Span := (z_fewZ_35 c i).t
abbrev z_fewZ_38 (c : Cht) (i : Nat) : Int := (gD (newD c).c.ns i).t.hi
abbrev z_fewZ_39 (c : Cht) (i : Nat) : Int := (gD (newD c).c.ns i).s.lo
abbrev z_fewZ_40 (c : Cht) (i : Nat) : Span := (z_fewZ_35 c i).s
abbrev z_fewZ_41 (c : Cht) (i : Nat) : Int := (gD (newD c).c.ns i).s.hi
abbrev z_fewZ_42 : Prop := ∀ (i : Nat), i < (40 : Nat) -> false = false
abbrev z_fewZ_43 (c : Cht) (n : Int) : Nt := ntOf (z_fewZ_33 c) n
abbrev z_fewZ_44 (c : Cht) (n : Int) : Span := (z_fewZ_43 c n).t
abbrev z_fewZ_45 (c : Cht) (n : Int) : Span := (z_fewZ_43 c n).s
abbrev z_fewZ_46 (c : Cht) : Prop := c.ns.length = (0 : Nat)
abbrev z_fewZ_47 : Prop := (0 : Nat) < (1 : Nat)
abbrev z_fewZ_48 (c : Cht) : Prop := (newD c).c.p.lo = (newD c).c.p.lo
abbrev z_fewZ_49 (c : Cht) : Prop := (newD c).c.p.hi = (newD c).c.p.hi
abbrev z_fewZ_50 (c : Cht) : Prop := (newD c).c.base = (newD c).c.base
abbrev z_fewZ_51 (c : Cht) : Prop := (newD c).c.scale = (newD c).c.scale
abbrev z_fewZ_52 (c : Cht) : Prop := (newD c).c.off = (newD c).c.off
abbrev z_fewZ_53 (c : Cht) : Prop := ∀ (n : Int), (newD c).st n = (newD c).st n
abbrev z_fewZ_54 (c : Cht) : List Mk := rng (newD c).c.ms.length λ (i : Nat) => gD (newD c).c.ms i
abbrev z_fewZ_55 (c : Cht) : Nat := (z_fewZ_54 c).length
abbrev z_fewZ_56 (c : Cht) (i : Nat) : Mk := gD (z_fewZ_54 c) i
abbrev z_fewZ_57 (c : Cht) : List Nt := rng (newD c).c.ns.length λ (i : Nat) => gD (newD c).c.ns i
abbrev z_fewZ_58 (c : Cht) : Nat := (z_fewZ_57 c).length
abbrev z_fewZ_59 (c : Cht) (i : Nat) : Nt := gD (z_fewZ_57 c) i
abbrev z_fewZ_60 (c : Cht) (i : Nat) : Span := (z_fewZ_59 c i).t
abbrev z_fewZ_61 (c : Cht) (i : Nat) : Span := (z_fewZ_59 c i).s
abbrev z_fewZ_62 (c : Cht) (n : Int) : Nt := ntOf (z_fewZ_57 c) n
abbrev z_fewZ_63 (c : Cht) (n : Int) : Span := (z_fewZ_62 c n).t
abbrev z_fewZ_64 (c : Cht) (n : Int) : Span := (z_fewZ_62 c n).s
abbrev z_fewZ_65 (c : Cht) : Dk := stD (DkZ.mk (Dk.mk (Cht.mk (newD c).c.p (newD c).c.base (newD c).c.scale (newD c).c.off (z_fewZ_54 c) (z_fewZ_57 c)) (newD c).st (newD c).sp) (rng (0 : Nat) λ (i : Nat) => default))
abbrev z_fewZ_66 (c : Cht) : Cht := (z_fewZ_65 c).c
abbrev z_fewZ_67 (c : Cht) : List Nt := (z_fewZ_66 c).ns
abbrev z_fewZ_68 (c : Cht) (n : Int) : Nt := ntOf (z_fewZ_67 c) n
abbrev z_fewZ_69 (c : Cht) (n : Int) : Span := (z_fewZ_68 c n).t
abbrev z_fewZ_70 (c : Cht) (n : Int) : Span := (z_fewZ_68 c n).s
abbrev z_fewZ_71 (c : Cht) : Span := (z_fewZ_66 c).p
abbrev z_fewZ_72 (c : Cht) : Int := (z_fewZ_71 c).lo
abbrev z_fewZ_73 (c : Cht) : Prop := z_fewZ_72 c = z_fewZ_72 c
abbrev z_fewZ_74 (c : Cht) : Int := (z_fewZ_71 c).hi
abbrev z_fewZ_75 (c : Cht) : Prop := z_fewZ_74 c = z_fewZ_74 c
abbrev z_fewZ_76 (c : Cht) : Int := (z_fewZ_66 c).base
abbrev z_fewZ_77 (c : Cht) : Prop := z_fewZ_76 c = z_fewZ_76 c
abbrev z_fewZ_78 (c : Cht) : Int := (z_fewZ_66 c).scale
abbrev z_fewZ_79 (c : Cht) : Prop := z_fewZ_78 c = z_fewZ_78 c
abbrev z_fewZ_80 (c : Cht) : Int := (z_fewZ_66 c).off
abbrev z_fewZ_81 (c : Cht) : Prop := z_fewZ_80 c = z_fewZ_80 c
abbrev z_fewZ_82 (c : Cht) : List Mk := (z_fewZ_66 c).ms
abbrev z_fewZ_83 (c : Cht) : Nat := (z_fewZ_82 c).length
abbrev z_fewZ_84 (c : Cht) (i : Nat) : Mk := gD (z_fewZ_82 c) i
abbrev z_fewZ_85 (c : Cht) : List Mk := rng (z_fewZ_83 c) λ (i : Nat) => z_fewZ_84 c i
abbrev z_fewZ_86 (c : Cht) : Nat := (z_fewZ_85 c).length
abbrev z_fewZ_87 (c : Cht) (i : Nat) : Mk := gD (z_fewZ_85 c) i
abbrev z_fewZ_88 (c : Cht) (i : Nat) : Int := (z_fewZ_87 c i).pl
abbrev z_fewZ_89 (c : Cht) (i : Nat) : Int := (z_fewZ_84 c i).pl
abbrev z_fewZ_90 (c : Cht) (i : Nat) : Int := (z_fewZ_87 c i).ht
abbrev z_fewZ_91 (c : Cht) (i : Nat) : Int := (z_fewZ_84 c i).ht
abbrev z_fewZ_92 (c : Cht) : Nat := (z_fewZ_67 c).length
abbrev z_fewZ_93 (c : Cht) (i : Nat) : Nt := gD (z_fewZ_67 c) i
abbrev z_fewZ_94 (c : Cht) : List Nt := rng (z_fewZ_92 c) λ (i : Nat) => z_fewZ_93 c i
abbrev z_fewZ_95 (c : Cht) : Nat := (z_fewZ_94 c).length
abbrev z_fewZ_96 (c : Cht) (i : Nat) : Nt := gD (z_fewZ_94 c) i
abbrev z_fewZ_97 (c : Cht) (i : Nat) : Int := (z_fewZ_96 c i).mi
abbrev z_fewZ_98 (c : Cht) (i : Nat) : Int := (z_fewZ_93 c i).mi
abbrev z_fewZ_99 (c : Cht) (i : Nat) : Span := (z_fewZ_96 c i).t
abbrev z_fewZ_100 (c : Cht) (i : Nat) : Int := (z_fewZ_99 c i).lo
abbrev z_fewZ_101 (c : Cht) (i : Nat) : Span := (z_fewZ_93 c i).t
abbrev z_fewZ_102 (c : Cht) (i : Nat) : Int := (z_fewZ_101 c i).lo
abbrev z_fewZ_103 (c : Cht) (i : Nat) : Int := (z_fewZ_99 c i).hi
abbrev z_fewZ_104 (c : Cht) (i : Nat) : Int := (z_fewZ_101 c i).hi
abbrev z_fewZ_105 (c : Cht) (i : Nat) : Span := (z_fewZ_96 c i).s
abbrev z_fewZ_106 (c : Cht) (i : Nat) : Int := (z_fewZ_105 c i).lo
abbrev z_fewZ_107 (c : Cht) (i : Nat) : Span := (z_fewZ_93 c i).s
abbrev z_fewZ_108 (c : Cht) (i : Nat) : Int := (z_fewZ_107 c i).lo
abbrev z_fewZ_109 (c : Cht) (i : Nat) : Int := (z_fewZ_105 c i).hi
abbrev z_fewZ_110 (c : Cht) (i : Nat) : Int := (z_fewZ_107 c i).hi
abbrev z_fewZ_111 (c : Cht) (n : Int) : Bool := hasN (z_fewZ_94 c) n
abbrev z_fewZ_112 (c : Cht) (n : Int) : Nt := ntOf (z_fewZ_94 c) n
abbrev z_fewZ_113 (c : Cht) (n : Int) : Int := (z_fewZ_112 c n).mi
abbrev z_fewZ_114 (c : Cht) (n : Int) : Span := (z_fewZ_112 c n).t
abbrev z_fewZ_115 (c : Cht) (n : Int) : Int := (z_fewZ_114 c n).lo
abbrev z_fewZ_116 (c : Cht) (n : Int) : Int := (z_fewZ_114 c n).hi
abbrev z_fewZ_117 (c : Cht) (n : Int) : Span := (z_fewZ_112 c n).s
abbrev z_fewZ_118 (c : Cht) (n : Int) : Int := (z_fewZ_117 c n).lo
abbrev z_fewZ_119 (c : Cht) (n : Int) : Int := (z_fewZ_117 c n).hi
abbrev z_fewZ_120 (c : Cht) : Prop := (fwO c).q.length = (0 : Nat)
abbrev z_fewZ_121 (c : Cht) : Prop := (fwO c).r.length = (0 : Nat)
theorem vc_fewZ (c : Cht) : (V_fewZ c) = ((c.p.lo = c.p.lo /\ c.p.hi = c.p.hi /\ c.base = c.base /\ c.scale = c.scale /\ c.off = c.off /\ z_fewZ_2 c /\ z_fewZ_6 c /\ z_fewZ_9 c /\ z_fewZ_18 c /\ (z_fewZ_1 c < (4611686018427387904
 : Nat) /\ z_fewZ_8 c < (4611686018427387904 : Nat)) /\ checkC (z_fewZ_19 c) = (0 : Int)) /\ (∃ (a : One), (z_fewZ_20 /\ z_fewZ_21 /\ (↑c.ns.length : Int) = (↑c.ns.length : Int) /\ z_fewZ_22 /\ c.p.lo = c.p.lo /\ c.p.hi = c.p.hi
 /\ c.base = c.base /\ c.scale = c.scale /\ c.off = c.off /\ z_fewZ_23 c /\ z_fewZ_24 c /\ z_fewZ_25 c /\ z_fewZ_26 c /\ (newD c).c.p.lo = (z_fewZ_29 c).lo /\ (newD c).c.p.hi = (z_fewZ_29 c).hi /\ (newD c).c.base = (z_fewZ_28
 c).base /\ (newD c).c.scale = (z_fewZ_28 c).scale /\ (newD c).c.off = (z_fewZ_28 c).off /\ (newD c).c.ms.length = (z_fewZ_30 c).length /\ (∀ (i : Nat), z_fewZ_31 i c -> (gD (newD c).c.ms i).pl = (z_fewZ_32 c i).pl /\ (gD (newD
 c).c.ms i).ht = (z_fewZ_32 c i).ht) /\ (newD c).c.ns.length = (z_fewZ_33 c).length /\ (∀ (i : Nat), z_fewZ_34 i c -> (gD (newD c).c.ns i).mi = (z_fewZ_35 c i).mi /\ z_fewZ_36 c i = (z_fewZ_37 c i).lo /\ z_fewZ_38 c i =
 (z_fewZ_37 c i).hi /\ z_fewZ_39 c i = (z_fewZ_40 c i).lo /\ z_fewZ_41 c i = (z_fewZ_40 c i).hi) /\ z_fewZ_42 /\ zNt = zNt /\ (∀ (n : Int), hasN (newD c).c.ns n = hasN (z_fewZ_33 c) n) /\ (∀ (n : Int), (newD c).st n =
 (z_fewZ_27 c).st n) /\ ∀ (n : Int), (ntOf (newD c).c.ns n).mi = (z_fewZ_43 c n).mi /\ (ntOf (newD c).c.ns n).t.lo = (z_fewZ_44 c n).lo /\ (ntOf (newD c).c.ns n).t.hi = (z_fewZ_44 c n).hi /\ (ntOf (newD c).c.ns n).s.lo =
 (z_fewZ_45 c n).lo /\ (ntOf (newD c).c.ns n).s.hi = (z_fewZ_45 c n).hi) /\ z_fewZ_46 c) /\ ∀ (a : One), z_fewZ_46 c -> bif decide ((↑(0 : Nat) : Int) < (↑c.ns.length : Int)) then ((True /\ ((0 : Nat) < (0 : Nat) -> (0 : Nat) =
 (1 : Nat))) /\ ((1 : Nat) <= (1 : Nat) /\ (z_fewZ_47 -> (1 : Nat) = (1 : Nat))) /\ (false = true -> z_fewZ_47) /\ (1 : Nat) <= (9223372036854775807 : Nat) /\ (8 : Nat) <= (140737488355328 : Nat)) /\ False else (z_fewZ_20 /\
 z_fewZ_21 /\ c.p.lo = c.p.lo /\ c.p.hi = c.p.hi /\ c.base = c.base /\ c.scale = c.scale /\ c.off = c.off /\ z_fewZ_2 c /\ z_fewZ_6 c /\ z_fewZ_9 c /\ z_fewZ_18 c /\ c.p.lo = c.p.lo /\ c.p.hi = c.p.hi /\ c.base = c.base /\ c.scale =
 c.scale /\ c.off = c.off /\ c.ms.length = z_fewZ_1 c /\ (∀ (i : Nat), i < c.ms.length -> (gD c.ms i).pl = z_fewZ_4 c i /\ (gD c.ms i).ht = z_fewZ_5 c i) /\ c.ns.length = z_fewZ_8 c /\ ∀ (i : Nat), i < c.ns.length -> (gD c.ns
 i).mi = z_fewZ_11 c i /\ (gD c.ns i).t.lo = z_fewZ_13 c i /\ (gD c.ns i).t.hi = z_fewZ_14 c i /\ (gD c.ns i).s.lo = z_fewZ_16 c i /\ (gD c.ns i).s.hi = z_fewZ_17 c i) /\ (∃ (a : One), (z_fewZ_20 /\ z_fewZ_21 /\ z_fewZ_20 /\
 z_fewZ_21 /\ z_fewZ_20 /\ z_fewZ_21 /\ Int.negSucc (0 : Nat) = Int.negSucc (0 : Nat) /\ z_fewZ_20 /\ z_fewZ_21 /\ z_fewZ_22 /\ z_fewZ_22 /\ c.p.lo = c.p.lo /\ c.p.hi = c.p.hi /\ c.base = c.base /\ c.scale = c.scale /\ c.off = c.off
 /\ z_fewZ_23 c /\ z_fewZ_24 c /\ z_fewZ_25 c /\ z_fewZ_26 c /\ z_fewZ_48 c /\ z_fewZ_49 c /\ z_fewZ_50 c /\ z_fewZ_51 c /\ z_fewZ_52 c /\ (newD c).c.ms.length = (newD c).c.ms.length /\ (∀ (i : Nat), z_fewZ_31 i c -> (gD (newD
 c).c.ms i).pl = (gD (newD c).c.ms i).pl /\ (gD (newD c).c.ms i).ht = (gD (newD c).c.ms i).ht) /\ (newD c).c.ns.length = (newD c).c.ns.length /\ (∀ (i : Nat), z_fewZ_34 i c -> (gD (newD c).c.ns i).mi = (gD (newD c).c.ns i).mi
 /\ z_fewZ_36 c i = z_fewZ_36 c i /\ z_fewZ_38 c i = z_fewZ_38 c i /\ z_fewZ_39 c i = z_fewZ_39 c i /\ z_fewZ_41 c i = z_fewZ_41 c i) /\ z_fewZ_42 /\ zNt = zNt /\ (∀ (n : Int), hasN (newD c).c.ns n = hasN (newD c).c.ns n) /\
 z_fewZ_53 c /\ ∀ (n : Int), (ntOf (newD c).c.ns n).mi = (ntOf (newD c).c.ns n).mi /\ (ntOf (newD c).c.ns n).t.lo = (ntOf (newD c).c.ns n).t.lo /\ (ntOf (newD c).c.ns n).t.hi = (ntOf (newD c).c.ns n).t.hi /\ (ntOf (newD
 c).c.ns n).s.lo = (ntOf (newD c).c.ns n).s.lo /\ (ntOf (newD c).c.ns n).s.hi = (ntOf (newD c).c.ns n).s.hi) /\ z_fewZ_46 c) /\ ∀ (a : One), z_fewZ_46 c -> (z_fewZ_20 /\ z_fewZ_20 /\ z_fewZ_48 c /\ z_fewZ_49 c /\ z_fewZ_50 c /\
 z_fewZ_51 c /\ z_fewZ_52 c /\ z_fewZ_55 c = (newD c).c.ms.length /\ (∀ (i : Nat), i < z_fewZ_55 c -> (z_fewZ_56 c i).pl = (gD (newD c).c.ms i).pl /\ (z_fewZ_56 c i).ht = (gD (newD c).c.ms i).ht) /\ z_fewZ_58 c = (newD
 c).c.ns.length /\ (∀ (i : Nat), i < z_fewZ_58 c -> (z_fewZ_59 c i).mi = (gD (newD c).c.ns i).mi /\ (z_fewZ_60 c i).lo = z_fewZ_36 c i /\ (z_fewZ_60 c i).hi = z_fewZ_38 c i /\ (z_fewZ_61 c i).lo = z_fewZ_39 c i /\ (z_fewZ_61 c
 i).hi = z_fewZ_41 c i) /\ z_fewZ_42 /\ zNt = zNt /\ (∀ (n : Int), hasN (z_fewZ_57 c) n = hasN (newD c).c.ns n) /\ z_fewZ_53 c /\ (∀ (n : Int), (z_fewZ_62 c n).mi = (ntOf (newD c).c.ns n).mi /\ (z_fewZ_63 c n).lo = (ntOf (newD
 c).c.ns n).t.lo /\ (z_fewZ_63 c n).hi = (ntOf (newD c).c.ns n).t.hi /\ (z_fewZ_64 c n).lo = (ntOf (newD c).c.ns n).s.lo /\ (z_fewZ_64 c n).hi = (ntOf (newD c).c.ns n).s.hi) /\ zNt = zNt /\ (∀ (n : Int), hasN (newD c).c.ns n =
 hasN (z_fewZ_67 c) n) /\ (∀ (n : Int), (newD c).st n = (z_fewZ_65 c).st n) /\ (∀ (n : Int), (ntOf (newD c).c.ns n).mi = (z_fewZ_68 c n).mi /\ (ntOf (newD c).c.ns n).t.lo = (z_fewZ_69 c n).lo /\ (ntOf (newD c).c.ns n).t.hi =
 (z_fewZ_69 c n).hi /\ (ntOf (newD c).c.ns n).s.lo = (z_fewZ_70 c n).lo /\ (ntOf (newD c).c.ns n).s.hi = (z_fewZ_70 c n).hi) /\ (0 : Nat) < (4611686018427387904 : Nat) /\ z_fewZ_55 c <= (40 : Nat)) /\ (z_fewZ_73 c /\ z_fewZ_75 c
 /\ z_fewZ_77 c /\ z_fewZ_79 c /\ z_fewZ_81 c /\ z_fewZ_86 c = z_fewZ_83 c /\ (∀ (i : Nat), i < z_fewZ_86 c -> z_fewZ_88 c i = z_fewZ_89 c i /\ z_fewZ_90 c i = z_fewZ_91 c i) /\ z_fewZ_95 c = z_fewZ_92 c /\ (∀ (i : Nat), i <
 z_fewZ_95 c -> z_fewZ_97 c i = z_fewZ_98 c i /\ z_fewZ_100 c i = z_fewZ_102 c i /\ z_fewZ_103 c i = z_fewZ_104 c i /\ z_fewZ_106 c i = z_fewZ_108 c i /\ z_fewZ_109 c i = z_fewZ_110 c i) /\ z_fewZ_42 /\ zNt = zNt /\ (∀ (n : Int),
 z_fewZ_111 c n = hasN (newD c).c.ns n) /\ z_fewZ_53 c /\ (∀ (n : Int), z_fewZ_113 c n = (ntOf (newD c).c.ns n).mi /\ z_fewZ_115 c n = (ntOf (newD c).c.ns n).t.lo /\ z_fewZ_116 c n = (ntOf (newD c).c.ns n).t.hi /\ z_fewZ_118 c
 n = (ntOf (newD c).c.ns n).s.lo /\ z_fewZ_119 c n = (ntOf (newD c).c.ns n).s.hi) /\ z_fewZ_73 c /\ z_fewZ_75 c /\ z_fewZ_77 c /\ z_fewZ_79 c /\ z_fewZ_81 c /\ z_fewZ_83 c = z_fewZ_86 c /\ (∀ (i : Nat), i < z_fewZ_83 c ->
 z_fewZ_89 c i = z_fewZ_88 c i /\ z_fewZ_91 c i = z_fewZ_90 c i) /\ z_fewZ_92 c = z_fewZ_95 c /\ (∀ (i : Nat), i < z_fewZ_92 c -> z_fewZ_98 c i = z_fewZ_97 c i /\ z_fewZ_102 c i = z_fewZ_100 c i /\ z_fewZ_104 c i = z_fewZ_103 c
 i /\ z_fewZ_108 c i = z_fewZ_106 c i /\ z_fewZ_110 c i = z_fewZ_109 c i) /\ z_fewZ_42 /\ zNt = zNt /\ (∀ (n : Int), hasN (newD c).c.ns n = z_fewZ_111 c n) /\ z_fewZ_53 c /\ (∀ (n : Int), (ntOf (newD c).c.ns n).mi = z_fewZ_113 c
 n /\ (ntOf (newD c).c.ns n).t.lo = z_fewZ_115 c n /\ (ntOf (newD c).c.ns n).t.hi = z_fewZ_116 c n /\ (ntOf (newD c).c.ns n).s.lo = z_fewZ_118 c n /\ (ntOf (newD c).c.ns n).s.hi = z_fewZ_119 c n) /\ (1 : Nat) <= z_fewZ_86 c /\
 z_fewZ_86 c <= (40 : Nat) /\ ∀ (j : Int), z_fewZ_111 c j = true -> (0 : Int) <= j /\ j < (↑(z_fewZ_86 c) : Int)) /\ bif !(timesV (Dk.mk (Cht.mk (z_fewZ_71 c) (z_fewZ_76 c) (z_fewZ_78 c) (z_fewZ_80 c) (z_fewZ_85 c) (z_fewZ_94
 c)) (newD c).st (z_fewZ_65 c).sp)).snd then z_fewZ_120 c /\ z_fewZ_120 c /\ z_fewZ_121 c /\ z_fewZ_121 c /\ (fwO c).e = (6 : Int) else z_fewZ_120 c /\ z_fewZ_120 c /\ z_fewZ_121 c /\ z_fewZ_121 c /\ (fwO c).e = (0 : Int)) := by
 kernel_rfl
def A_fewX : Ann := ann 101 [(n_opened, C_openX.spec dC1)]
def V_fewX (c : Cht) : Prop := fnVC Try.prog A_fewX F_fewest (bodyOf F_fewest) [.d (eCht c)] (heapOf []) (.tup [.d (eIntsL nilI), .d (ePrs nilP), .int (checkC c)]) [] [] []
theorem vc_fewX (c : Cht) : (V_fewX c) = ((c.p.lo = c.p.lo /\ c.p.hi = c.p.hi /\ c.base = c.base /\ c.scale = c.scale /\ c.off = c.off /\ (rng c.ms.length λ (i : Nat) => gD c.ms i).length = c.ms.length /\ (∀ (i : Nat), i <
 (rng c.ms.length λ (i : Nat) => gD c.ms i).length -> (gD (rng c.ms.length λ (i : Nat) => gD c.ms i) i).pl = (gD c.ms i).pl /\ (gD (rng c.ms.length λ (i : Nat) => gD c.ms i) i).ht = (gD c.ms i).ht) /\ (rng c.ns.length
 λ (i : Nat) => gD c.ns i).length = c.ns.length /\ (∀ (i : Nat), i < (rng c.ns.length λ (i : Nat) => gD c.ns i).length -> (gD (rng c.ns.length λ (i : Nat) => gD c.ns i) i).mi = (gD c.ns i).mi /\ (gD (rng c.ns.length
 λ (i : Nat) => gD c.ns i) i).t.lo = (gD c.ns i).t.lo /\ (gD (rng c.ns.length λ (i : Nat) => gD c.ns i) i).t.hi = (gD c.ns i).t.hi /\ (gD (rng c.ns.length λ (i : Nat) => gD c.ns i) i).s.lo = (gD c.ns i).s.lo /\ (gD
 (rng c.ns.length λ (i : Nat) => gD c.ns i) i).s.hi = (gD c.ns i).s.hi) /\ ((rng c.ms.length λ (i : Nat) => gD c.ms i).length < 4611686018427387904 /\ (rng c.ns.length λ (i : Nat) => gD c.ns i).length <
 4611686018427387904) /\ checkC (Cht.mk c.p c.base c.scale c.off (rng c.ms.length λ (i : Nat) => gD c.ms i) (rng c.ns.length λ (i : Nat) => gD c.ns i)) ≠ 0) /\ bif checkC (Cht.mk c.p c.base c.scale c.off (rng
 c.ms.length λ (i : Nat) => gD c.ms i) (rng c.ns.length λ (i : Nat) => gD c.ns i)) != 0 then 0 = 0 /\ 0 = 0 /\ 0 = 0 /\ 0 = 0 /\ checkC c = checkC (Cht.mk c.p c.base c.scale c.off (rng c.ms.length λ (i : Nat) => gD c.ms
 i) (rng c.ns.length λ (i : Nat) => gD c.ns i)) else False) := by kernel_rfl
theorem p_fewZ (c : Cht) (h1 : c.ms.length < 4611686018427387904 /\ c.ns.length < 4611686018427387904) (h0 : checkC c = 0) (hn : c.ns.length = 0) : V_fewZ c := by
 have hl := headC_len h0
 have hs := nsIn_of h0
 rw [vc_fewZ]; delta z_fewZ_0 z_fewZ_1 z_fewZ_2 z_fewZ_3 z_fewZ_4 z_fewZ_5 z_fewZ_6 z_fewZ_7 z_fewZ_8 z_fewZ_9 z_fewZ_10 z_fewZ_11 z_fewZ_12 z_fewZ_13 z_fewZ_14 z_fewZ_15 z_fewZ_16 z_fewZ_17 z_fewZ_18 z_fewZ_19 z_fewZ_20 z_fewZ_21 z_fewZ_22 z_fewZ_23 z_fewZ_24 z_fewZ_25 z_fewZ_26 z_fewZ_27 z_fewZ_28 z_fewZ_29 z_fewZ_30 z_fewZ_31 z_fewZ_32 z_fewZ_33 z_fewZ_34 z_fewZ_35 z_fewZ_36 z_fewZ_37 z_fewZ_38 z_fewZ_39 z_fewZ_40 z_fewZ_41 z_fewZ_42 z_fewZ_43 z_fewZ_44 z_fewZ_45 z_fewZ_46 z_fewZ_47 z_fewZ_48 z_fewZ_49 z_fewZ_50 z_fewZ_51 z_fewZ_52 z_fewZ_53 z_fewZ_54 z_fewZ_55 z_fewZ_56 z_fewZ_57 z_fewZ_58 z_fewZ_59 z_fewZ_60 z_fewZ_61 z_fewZ_62 z_fewZ_63 z_fewZ_64 z_fewZ_65 z_fewZ_66 z_fewZ_67 z_fewZ_68 z_fewZ_69 z_fewZ_70 z_fewZ_71 z_fewZ_72 z_fewZ_73 z_fewZ_74 z_fewZ_75 z_fewZ_76 z_fewZ_77 z_fewZ_78 z_fewZ_79 z_fewZ_80 z_fewZ_81 z_fewZ_82 z_fewZ_83 z_fewZ_84 z_fewZ_85 z_fewZ_86 z_fewZ_87 z_fewZ_88 z_fewZ_89 z_fewZ_90 z_fewZ_91 z_fewZ_92 z_fewZ_93 z_fewZ_94 z_fewZ_95 z_fewZ_96 z_fewZ_97 z_fewZ_98 z_fewZ_99 z_fewZ_100 z_fewZ_101 z_fewZ_102 z_fewZ_103 z_fewZ_104 z_fewZ_105 z_fewZ_106 z_fewZ_107 z_fewZ_108 z_fewZ_109 z_fewZ_110 z_fewZ_111 z_fewZ_112 z_fewZ_113 z_fewZ_114 z_fewZ_115 z_fewZ_116 z_fewZ_117 z_fewZ_118 z_fewZ_119 z_fewZ_120 z_fewZ_121; simp only [condP, eq_self, implies_true, and_self, true_and, and_true, true_implies, forall_const, decide_eq_true_eq, decide_eq_false_iff_not, Int.toNat_natCast, dSpan_eSpan, dInt_eInt, dMk_e, dNt_e, dPr_e, Nat.zero_add, Int.zero_sub, Nat.le_eq, Nat.succ_eq_add_one, Nat.add_one_le_iff, Bool.not_eq_true', Bool.not_eq_false', rng_length, dSpan_mk, rng_getD, cht_eta, newD_c, dk_eta, stD_c, newD_eta]
 have hq : (fwE c).q = [] := by unfold fwE; rw [hn]; rfl
 have hr : (fwE c).r = [] := by unfold fwE; rw [hn]; rfl
 refine ⟨⟨h1, h0⟩, ⟨default, hn⟩, λ _ => ⟨λ h => by omega, λ _ => ⟨⟨default, hn⟩, λ _ => ⟨⟨λ n => rfl, by decide, hl.2.1.2⟩, ⟨hl.2.1.1, hl.2.1.2, hs.1⟩, λ hc => ?_, λ hc => ?_⟩⟩⟩⟩
 ·have hc : (timesV (stD ⟨newD c, []⟩)).2 = false := hc
  have hc : (timesV (fwW c)).2 = false := by unfold fwW; rw [hq]; exact hc
  unfold fwO; rw [hc]; exact ⟨rfl, rfl, rfl, rfl, rfl⟩
 ·have hc : (timesV (stD ⟨newD c, []⟩)).2 = true := hc
  have hc : (timesV (fwW c)).2 = true := by unfold fwW; rw [hq]; exact hc
  unfold fwO; rw [hc]
  exact ⟨by show (fwE c).q.length = 0; rw [hq]; rfl, by show (fwE c).q.length = 0; rw [hq]; rfl, by show (fwE c).r.length = 0; rw [hr]; rfl, by show (fwE c).r.length = 0; rw [hr]; rfl, rfl⟩
theorem ok_few : SpecOk Try.prog n_fewest (C_few.spec dC1) := okT C_few (λ (c : Cht) h => by
 obtain ⟨h1, h2⟩ : (c.ms.length < 4611686018427387904 /\ c.ns.length < 4611686018427387904) /\ (checkC c = 0 -> c.ns.length <= 12) := h
 by_cases h0 : checkC c = 0
 ·have e : C_few.val c = .tup [.d (eIntsL (fwO c).q), .d (ePrs (fwO c).r), .int (fwO c).e] := by
   show AVal.tup [.d (eIntsL (fewV c).q), .d (ePrs (fewV c).r), .int (fewV c).e] = _
   unfold fewV; rw [h0]; rfl
  rw [e]
  rcases Nat.eq_zero_or_pos c.ns.length with hz | hp
  ·exact fnt (A := A_fewZ c) (L := []) (keep := []) (ren := []) (fz := []) fn_fewest (by kernel_rfl) (gok_cons ok_open (gok_cons ok_sortZ (gok_cons ok_stop (gok_cons ok_times gok_nil)))) (p_fewZ c h1 h0 hz)
  ·exact fnt (A := A_few c) (L := []) (keep := []) (ren := []) (fz := []) fn_fewest (by kernel_rfl) (gok_cons ok_open (gok_cons ok_sort (gok_cons ok_late (gok_cons ok_stop (gok_cons ok_times gok_nil))))) (p_few c h1 h0 ⟨hp, h2 h0⟩)
 ·have h0' : (checkC c == 0) = false := by simpa using h0
  have e : C_few.val c = .tup [.d (eIntsL nilI), .d (ePrs nilP), .int (checkC c)] := by
   show AVal.tup [.d (eIntsL (fewV c).q), .d (ePrs (fewV c).r), .int (fewV c).e] = _
   unfold fewV; rw [h0']; rfl
  rw [e]
  refine fnt (A := A_fewX) (L := []) (keep := []) (ren := []) (fz := []) fn_fewest (by kernel_rfl) (gok_cons ok_openX gok_nil) ?_
  show V_fewX c; rw [vc_fewX]; simp only [condP, eq_self, implies_true, and_self, true_and, and_true, true_implies, forall_const, decide_eq_true_eq, decide_eq_false_iff_not, Int.toNat_natCast, dSpan_eSpan, dInt_eInt, dMk_e, dNt_e, dPr_e, Nat.zero_add, Int.zero_sub, Nat.le_eq, Nat.succ_eq_add_one, Nat.add_one_le_iff, Bool.not_eq_true', Bool.not_eq_false', rng_length, dSpan_mk, rng_getD, cht_eta]
  simp [h1, h0, nilI, nilP]) _
def C_Stops : Ctr := { α := Cht, xs := λ c => [.d (eCht c)], val := λ c => .tup [.d (eIntsL (fewV c).q), .int (fewV c).e], keep := λ _ => [], pre := λ c => [(c.ms.length < 4611686018427387904 /\ c.ns.length < 4611686018427387904) /\ (checkC c = 0 -> c.ns.length <= 12)] }
def A_Stops : Ann := ann 15 [(n_fewest, C_few.spec dC1)]
def V_Stops (c : Cht) : Prop := fnVC Try.prog A_Stops F_Stops (bodyOf F_Stops) [.d (eCht c)] (heapOf []) (C_Stops.val c) [] [] []
theorem vc_Stops (c : Cht) : (V_Stops c) = ((c.p.lo = c.p.lo /\ c.p.hi = c.p.hi /\ c.base = c.base /\ c.scale = c.scale /\ c.off = c.off /\ (rng c.ms.length λ (i : Nat) => gD c.ms i).length = c.ms.length /\ (∀ (i : Nat), i <
 (rng c.ms.length λ (i : Nat) => gD c.ms i).length -> (gD (rng c.ms.length λ (i : Nat) => gD c.ms i) i).pl = (gD c.ms i).pl /\ (gD (rng c.ms.length λ (i : Nat) => gD c.ms i) i).ht = (gD c.ms i).ht) /\ (rng c.ns.length
 λ (i : Nat) => gD c.ns i).length = c.ns.length /\ (∀ (i : Nat), i < (rng c.ns.length λ (i : Nat) => gD c.ns i).length -> (gD (rng c.ns.length λ (i : Nat) => gD c.ns i) i).mi = (gD c.ns i).mi /\ (gD (rng c.ns.length
 λ (i : Nat) => gD c.ns i) i).t.lo = (gD c.ns i).t.lo /\ (gD (rng c.ns.length λ (i : Nat) => gD c.ns i) i).t.hi = (gD c.ns i).t.hi /\ (gD (rng c.ns.length λ (i : Nat) => gD c.ns i) i).s.lo = (gD c.ns i).s.lo /\ (gD
 (rng c.ns.length λ (i : Nat) => gD c.ns i) i).s.hi = (gD c.ns i).s.hi) /\ ((rng c.ms.length λ (i : Nat) => gD c.ms i).length < 4611686018427387904 /\ (rng c.ns.length λ (i : Nat) => gD c.ns i).length <
 4611686018427387904) /\ (checkC (Cht.mk c.p c.base c.scale c.off (rng c.ms.length λ (i : Nat) => gD c.ms i) (rng c.ns.length λ (i : Nat) => gD c.ns i)) = 0 -> (rng c.ns.length λ (i : Nat) => gD c.ns i).length <= 12))
 /\ (fewV c).q.length = (fewV (Cht.mk c.p c.base c.scale c.off (rng c.ms.length λ (i : Nat) => gD c.ms i) (rng c.ns.length λ (i : Nat) => gD c.ns i))).q.length /\ (∀ (i : Nat), i < (fewV c).q.length -> gD (fewV c).q i =
 gD (fewV (Cht.mk c.p c.base c.scale c.off (rng c.ms.length λ (i : Nat) => gD c.ms i) (rng c.ns.length λ (i : Nat) => gD c.ns i))).q i) /\ (fewV c).e = (fewV (Cht.mk c.p c.base c.scale c.off (rng c.ms.length λ (i :
 Nat) => gD c.ms i) (rng c.ns.length λ (i : Nat) => gD c.ns i))).e) := by kernel_rfl
theorem ok_Stops : SpecOk Try.prog n_Stops (C_Stops.spec dC1) := okC C_Stops (λ _ => A_Stops) [] [] fn_Stops (λ _ => by kernel_rfl) (λ _ => gok_cons ok_few gok_nil) (λ (c : Cht) h => by
 show V_Stops c; rw [vc_Stops]; simp only [condP, eq_self, implies_true, and_self, true_and, and_true, true_implies, forall_const, decide_eq_true_eq, decide_eq_false_iff_not, Int.toNat_natCast, dSpan_eSpan, dInt_eInt, dMk_e, dNt_e, dPr_e, Nat.zero_add, Int.zero_sub, Nat.le_eq, Nat.succ_eq_add_one, Nat.add_one_le_iff, Bool.not_eq_true', Bool.not_eq_false', rng_length, dSpan_mk, rng_getD, cht_eta]; exact h) (λ _ => noI rfl rfl) _
def C_Pairs : Ctr := { α := Cht, xs := λ c => [.d (eCht c)], val := λ c => .tup [.d (ePrs (fewV c).r), .int (fewV c).e], keep := λ _ => [], pre := λ c => [(c.ms.length < 4611686018427387904 /\ c.ns.length < 4611686018427387904) /\ (checkC c = 0 -> c.ns.length <= 12)] }
def V_Pairs (c : Cht) : Prop := fnVC Try.prog A_Stops F_Pairs (bodyOf F_Pairs) [.d (eCht c)] (heapOf []) (C_Pairs.val c) [] [] []
theorem vc_Pairs (c : Cht) : (V_Pairs c) = ((c.p.lo = c.p.lo /\ c.p.hi = c.p.hi /\ c.base = c.base /\ c.scale = c.scale /\ c.off = c.off /\ (rng c.ms.length λ (i : Nat) => gD c.ms i).length = c.ms.length /\ (∀ (i : Nat), i <
 (rng c.ms.length λ (i : Nat) => gD c.ms i).length -> (gD (rng c.ms.length λ (i : Nat) => gD c.ms i) i).pl = (gD c.ms i).pl /\ (gD (rng c.ms.length λ (i : Nat) => gD c.ms i) i).ht = (gD c.ms i).ht) /\ (rng c.ns.length
 λ (i : Nat) => gD c.ns i).length = c.ns.length /\ (∀ (i : Nat), i < (rng c.ns.length λ (i : Nat) => gD c.ns i).length -> (gD (rng c.ns.length λ (i : Nat) => gD c.ns i) i).mi = (gD c.ns i).mi /\ (gD (rng c.ns.length
 λ (i : Nat) => gD c.ns i) i).t.lo = (gD c.ns i).t.lo /\ (gD (rng c.ns.length λ (i : Nat) => gD c.ns i) i).t.hi = (gD c.ns i).t.hi /\ (gD (rng c.ns.length λ (i : Nat) => gD c.ns i) i).s.lo = (gD c.ns i).s.lo /\ (gD
 (rng c.ns.length λ (i : Nat) => gD c.ns i) i).s.hi = (gD c.ns i).s.hi) /\ ((rng c.ms.length λ (i : Nat) => gD c.ms i).length < 4611686018427387904 /\ (rng c.ns.length λ (i : Nat) => gD c.ns i).length <
 4611686018427387904) /\ (checkC (Cht.mk c.p c.base c.scale c.off (rng c.ms.length λ (i : Nat) => gD c.ms i) (rng c.ns.length λ (i : Nat) => gD c.ns i)) = 0 -> (rng c.ns.length λ (i : Nat) => gD c.ns i).length <= 12))
 /\ (fewV c).r.length = (fewV (Cht.mk c.p c.base c.scale c.off (rng c.ms.length λ (i : Nat) => gD c.ms i) (rng c.ns.length λ (i : Nat) => gD c.ns i))).r.length /\ (∀ (i : Nat), i < (fewV c).r.length -> (gD (fewV c).r
 i).a = (gD (fewV (Cht.mk c.p c.base c.scale c.off (rng c.ms.length λ (i : Nat) => gD c.ms i) (rng c.ns.length λ (i : Nat) => gD c.ns i))).r i).a /\ (gD (fewV c).r i).b = (gD (fewV (Cht.mk c.p c.base c.scale c.off (rng
 c.ms.length λ (i : Nat) => gD c.ms i) (rng c.ns.length λ (i : Nat) => gD c.ns i))).r i).b) /\ (fewV c).e = (fewV (Cht.mk c.p c.base c.scale c.off (rng c.ms.length λ (i : Nat) => gD c.ms i) (rng c.ns.length λ (i :
 Nat) => gD c.ns i))).e) := by kernel_rfl
theorem ok_Pairs : SpecOk Try.prog n_Pairs (C_Pairs.spec dC1) := okC C_Pairs (λ _ => A_Stops) [] [] fn_Pairs (λ _ => by kernel_rfl) (λ _ => gok_cons ok_few gok_nil) (λ (c : Cht) h => by
 show V_Pairs c; rw [vc_Pairs]; simp only [condP, eq_self, implies_true, and_self, true_and, and_true, true_implies, forall_const, decide_eq_true_eq, decide_eq_false_iff_not, Int.toNat_natCast, dSpan_eSpan, dInt_eInt, dMk_e, dNt_e, dPr_e, Nat.zero_add, Int.zero_sub, Nat.le_eq, Nat.succ_eq_add_one, Nat.add_one_le_iff, Bool.not_eq_true', Bool.not_eq_false', rng_length, dSpan_mk, rng_getD, cht_eta]; exact h) (λ _ => noI rfl rfl) _
end Go.Bal
