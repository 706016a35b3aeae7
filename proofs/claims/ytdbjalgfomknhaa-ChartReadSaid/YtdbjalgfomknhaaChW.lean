/- Package chart: charts and truths that are made of numbers. -/
import Derived.Test.YtdbjalgfomknhaaChV
set_option linter.unusedVariables false
set_option linter.unusedSimpArgs false
namespace Go.Bal
open Go Go.Sym Go.Proofs
structure MkI where
 s : Stm
 m : Int
 b : Bool
def dMkI (b : Bool) : List AVal -> Heap -> Option (MkI × List (Nat × Nat) × List Nat)
 | [.bptr p _, .d (.v (.int _ n)), .d (.v (.bool c))], H => match c == b, ATE H p with
  | true, some s => some (⟨s, n, b⟩, [(100, p)], [])
  | _, _ => none
 | _, _ => none
def gS1 (s : Stm) : Stm := Fc s 1 12
def gS2 (s : Stm) : Stm := Fc (gS1 s) (-50) 400
def gS3 (s : Stm) : Stm := CP (gS2 s) 12
def gS4 (s : Stm) : Stm := CP (gS3 s) 9
def gS5 (s : Stm) : Stm := CP (gS4 s) 6
def gS6 (s : Stm) : Stm := CP (gS5 s) 300
def QS (s : Stm) : Int := Rj s 1 12
def XE (s : Stm) : Int := wr (QS s + BZ (gS4 s) 6)
def ZE (s : Stm) : Int := Rj (gS1 s) (-50) 400
def VN (s : Stm) : Int := BZ (gS2 s) 12
def TH (s : Stm) : Int := BZ (gS3 s) 9
def hTm (s : Stm) : Int := BZ (gS5 s) 300
structure MS where
 s : Stm
 pl : Int
 tm : Int
 ms : List Mk
 t : List Int
 st : List Int
 z : List Int
 deriving Inhabited
def YA (x : MS) : Int := Rj x.s 1 30
def advA (a : MkI) (x : MS) : MS := ⟨Fc (Fc x.s 1 30) (wr (QS a.s * YA x)) (wr (XE a.s * YA x)), wr (x.pl + YA x), wr (x.tm + Rj (Fc x.s 1 30) (wr (QS a.s * YA x)) (wr (XE a.s * YA x))), x.ms, x.t, x.st, x.z⟩
def advZ (a : MkI) (x : MS) : MS := bif a.b then bif BZ x.s 5 == 0 then ⟨CP (CP x.s 5) 400, x.pl, wr (x.tm + BZ (CP x.s 5) 400), x.ms, x.t, x.st, x.z ++ [wr ((x.ms.length : Int) - 1)]⟩ else ⟨CP x.s 5, x.pl, x.tm, x.ms, x.t, x.st, x.z⟩ else x
def yAt (a : MkI) (x : MS) : Int := wr (ZE a.s + wr (VN a.s * BZ x.s 60))
def zL (a : MkI) (x : MS) : MS := ⟨Fc (CP x.s 60) (wr (yAt a x - TH a.s)) (wr (yAt a x + TH a.s)), x.pl, x.tm, x.ms ++ [⟨x.pl, BZ x.s 60⟩], x.t ++ [x.tm], x.st ++ [Rj (CP x.s 60) (wr (yAt a x - TH a.s)) (wr (yAt a x + TH a.s))], x.z⟩
def goM (a : MkI) (x : MS) : MS := bif decide (0 < x.ms.length) then advZ a (advA a x) else x
def stpC (a : MkI) (x : MS) : MS := zL a (goM a x)
def dD (a : MkI) : Nat -> MS -> MS
 | 0, x => x
 | n + 1, x => dD a n (stpC a x)
def mS0 (a : MkI) : MS := ⟨Fc (gS6 a.s) 1 a.m, 0, hTm a.s, [], [], [], []⟩
def mN (a : MkI) : Nat := (Rj (gS6 a.s) 1 a.m).toNat
def mS (a : MkI) : MS := dD a (mN a) (mS0 a)
structure NSt where
 s : Stm
 ns : List Nt
 deriving Inhabited
def nS2 (s : Stm) : Stm := CP s 40
def nS3 (s : Stm) : Stm := CP (nS2 s) 40
def nS4 (s : Stm) : Stm := CP (nS3 s) 9
def nS5 (s : Stm) : Stm := CP (nS4 s) 9
def mkNt (a : MkI) (s : Stm) (i : Nat) : Nt := ⟨i, ⟨GV 0 (wr (gD (mS a).t i - BZ s 40)), wr (gD (mS a).t i + BZ (nS2 s) 40)⟩, ⟨wr (gD (mS a).st i - BZ (nS3 s) 9), wr (gD (mS a).st i + BZ (nS4 s) 9)⟩⟩
def addN (a : MkI) (b : Bool) (i : Nat) (x : NSt) : NSt := bif b then ⟨nS5 x.s, x.ns ++ [mkNt a x.s i]⟩ else x
def stpN (a : MkI) (i : Nat) (x : NSt) : NSt := addN a (BZ x.s 2 == 0) i ⟨CP x.s 2, x.ns⟩
def mkN (a : MkI) : Nat -> Nat -> NSt -> NSt
 | 0, _, x => x
 | n + 1, i, x => mkN a n (i + 1) (stpN a i x)
def Df (a : MkI) : NSt := mkN a (mS a).ms.length 0 ⟨(mS a).s, []⟩
def swN (l : List Nt) (i k : Nat) : List Nt := (l.set i (gD l k)).set k (gD l i)
def shK : Nat -> NSt -> NSt
 | 0, x => x
 | j + 1, x => shK j ⟨CP x.s ((j : Int) + 2), swN x.ns (j + 1) (BZ x.s ((j : Int) + 2)).toNat⟩
def mE (a : MkI) : NSt := shK ((Df a).ns.length - 1) (Df a)
def XB (a : MkI) : Cht := ⟨⟨QS a.s, XE a.s⟩, ZE a.s, VN a.s, TH a.s, (mS a).ms, (mE a).ns⟩
def F2 (a : MkI) : Tru := ⟨(mS a).t, (mS a).st, (mS a).z⟩
structure KS where
 k : Nat
 x : MS
 deriving Inhabited
structure KN where
 i : Nat
 x : NSt
 deriving Inhabited
def preM (a : MkI) : Prop := StmB 0 a.s /\ 1 <= a.m /\ a.m <= 14
def rowM (l : List Mk) : AObj := .row 2 l.length λ i => eMk (gD l i)
def rowN (l : List Nt) : AObj := .row 5 l.length λ i => eNt (gD l i)
def zCh : HCell := .live (.box [.int 0, .int 0, .int 0, .int 0, .int 0, .d WH, .d WH])
def zTr : HCell := .live (.box [.d WH, .d WH, .d WH])
def chC (a : MkI) (m n : AVal) : HCell := .live (.box [.int (QS a.s), .int (XE a.s), .int (ZE a.s), .int (VN a.s), .int (TH a.s), m, n])
def trC (t s z : AVal) : HCell := .live (.box [t, s, z])
def mdP : List (Nat × AVal) := [(0, .bptr 100 0), (6, .bptr 1000 0), (7, .bptr 1016 0), (8, .bptr 2160 0), (9, .bptr 4000 0)]
def mdS (b : Bool) (y : KS) : List (Nat × AVal) := mdP ++ [(2, .bool b), (10, .int y.x.pl), (11, .int y.x.tm), (12, .int y.k)]
def inv6 (a : MkI) (y : KS) : Prop := dD a y.k y.x = mS a /\ (y.k : Int) <= a.m /\ StmB (7 + 7 * (a.m - y.k)) y.x.s /\ ((y.x.ms.length : Int) + y.k <= a.m /\ y.x.t.length = y.x.ms.length /\ y.x.st.length = y.x.ms.length /\ (y.x.z = [] ∨ y.x.z.length + 1 <= y.x.ms.length))
def mdO (y : KS) : List (Nat × HCell) := [(301, .live (rowM y.x.ms)), (302, .live (rowI y.x.t)), (303, .live (rowI y.x.st))]
def ownM (y : KS) : AVal := .own 301 2 0 y.x.ms.length
def ownT (y : KS) (z : AVal) : HCell := trC (.own 302 1 0 y.x.t.length) (.own 303 1 0 y.x.st.length) z
def hpN (a : MkI) (y : KS) : List (Nat × HCell) := [(100, stmH y.x.s), (1000, zCh), (1016, zTr), (2160, chC a (.d WH) (.d WH)), (4000, zTr)]
def hpO (a : MkI) (y : KS) : List (Nat × HCell) := [(100, stmH y.x.s), (1000, zCh), (1016, zTr), (2160, chC a (ownM y) (.d WH)), (4000, ownT y (.d WH))] ++ mdO y
def hpP (a : MkI) (y : KS) : List (Nat × HCell) := [(100, stmH y.x.s), (1000, zCh), (1016, zTr), (2160, chC a (ownM y) (.d WH)), (4000, ownT y (.own 304 1 0 y.x.z.length))] ++ mdO y ++ [(304, .live (rowI y.x.z))]
def md6n (b : Bool) (a : MkI) : Shape := { α := KS, dflt := default, T := λ y => ⟨mdS b y, hpN a y⟩, inv := λ y => inv6 a y /\ 1 <= y.k /\ y.x.ms = [] /\ y.x.z = [], meas := λ y => 100, tag := [0] }
def md6o (b : Bool) (a : MkI) : Shape := { α := KS, dflt := default, T := λ y => ⟨mdS b y, hpO a y⟩, inv := λ y => inv6 a y /\ 1 <= y.x.ms.length /\ y.x.z = [], meas := λ y => y.k + 20, again := [(301, 18064), (302, 18144), (303, 18368)], tag := [1] }
def md6p (b : Bool) (a : MkI) : Shape := { α := KS, dflt := default, T := λ y => ⟨mdS b y, hpP a y⟩, inv := λ y => inv6 a y /\ 1 <= y.x.ms.length /\ 1 <= y.x.z.length, meas := λ y => y.k, again := [(301, 18064), (302, 18144), (303, 18368)], tag := [2] }
def BAO (a : MkI) (y : KS) : Prop := dD a (y.k - 1) (zL a y.x) = mS a /\ (1 <= y.k /\ (y.k : Int) <= a.m) /\ StmB (11 + 7 * (a.m - y.k)) y.x.s /\ ((y.x.ms.length : Int) + y.k <= a.m /\ y.x.t.length = y.x.ms.length /\ y.x.st.length = y.x.ms.length /\ y.x.z.length <= y.x.ms.length)
def c15n (b : Bool) (a : MkI) (m : Nat) : Shape := { α := KS, dflt := default, T := λ y => ⟨mdS b y, hpN a y⟩, inv := λ y => BAO a y /\ m = 100 /\ y.x.ms = [] /\ y.x.z = [], meas := λ _ => 0 }
def c15o (b : Bool) (a : MkI) (m : Nat) : Shape := { α := KS, dflt := default, T := λ y => ⟨mdS b y, hpO a y⟩, inv := λ y => BAO a y /\ y.k + 20 <= m /\ 1 <= y.x.ms.length /\ y.x.z = [], meas := λ _ => 0 }
def c15p (b : Bool) (a : MkI) (m : Nat) (f : List (Nat × Nat)) : Shape := { α := KS, dflt := default, T := λ y => ⟨mdS b y, hpP a y⟩, inv := λ y => BAO a y /\ y.k <= m /\ 1 <= y.x.ms.length /\ 1 <= y.x.z.length, meas := λ _ => 0, first := f }
def c15 (b : Bool) (a : MkI) (m : Nat) : Nat -> List Shape
 | 0 => [c15n b a m]
 | 1 => bif b then [c15o b a m, c15p b a m [(304, 14112)]] else [c15o b a m]
 | _ => [c15p b a m [(304, 14112)], c15p b a m []]
def mdH (a : MkI) (s : Stm) (n : AVal) : List (Nat × HCell) := [(100, stmH s), (1000, zCh), (1016, zTr), (2160, chC a (.d (eMks (mS a).ms)) n), (4000, trC (.d (IN (mS a).t)) (.d (IN (mS a).st)) (.d (IN (mS a).z)))]
def fin6 (a : MkI) : Prop := inv6 a ⟨0, mS a⟩
def md18 (a : MkI) (z : List Nat) : Shape := { α := One, dflt := default, T := λ _ => ⟨mdP, mdH a (mS a).s (.d WH)⟩, inv := λ _ => fin6 a, meas := λ _ => 0, ffz := z }
def BPM (a : MkI) (y : KN) : Prop := fin6 a /\ y.i <= (mS a).ms.length /\ StmB (7 + 7 * a.m + 5 * y.i) y.x.s /\ mkN a ((mS a).ms.length - y.i) y.i y.x = Df a /\ y.x.ns.length <= y.i
def BUB (a : MkI) : Shape := { α := KN, dflt := default, T := λ y => ⟨mdP ++ [(16, .int y.i)], mdH a y.x.s (.d WH)⟩, inv := λ y => BPM a y /\ y.x.ns = [], meas := λ y => 100 - y.i, tag := [0] }
def BVZ (a : MkI) : Shape := { α := KN, dflt := default, T := λ y => ⟨mdP ++ [(16, .int y.i)], mdH a y.x.s (.own 305 5 0 y.x.ns.length) ++ [(305, .live (rowN y.x.ns))]⟩, inv := λ y => BPM a y /\ 1 <= y.x.ns.length, meas := λ y => 100 - y.i, tag := [1] }
structure KNb where
 i : Nat
 x : NSt
 b : Bool
 deriving Inhabited
def BOJ (a : MkI) (m : Nat) (y : KNb) : Prop := fin6 a /\ (y.i < (mS a).ms.length /\ 100 - y.i = m) /\ StmB (8 + 7 * a.m + 5 * y.i) y.x.s /\ mkN a ((mS a).ms.length - (y.i + 1)) (y.i + 1) (addN a y.b y.i y.x) = Df a /\ y.x.ns.length <= y.i
def c22n (a : MkI) (m : Nat) : Shape := { α := KNb, dflt := default, T := λ y => ⟨mdP ++ [(16, .int y.i), (142, .bool y.b)], mdH a y.x.s (.d WH)⟩, inv := λ y => BOJ a m y /\ y.x.ns = [], meas := λ _ => 0 }
def c22o (a : MkI) (m : Nat) : Shape := { α := KNb, dflt := default, T := λ y => ⟨mdP ++ [(16, .int y.i), (142, .bool y.b)], mdH a y.x.s (.own 305 5 0 y.x.ns.length) ++ [(305, .live (rowN y.x.ns))]⟩, inv := λ y => BOJ a m y /\ 1 <= y.x.ns.length, meas := λ _ => 0 }
def BOS (a : MkI) (m : Nat) (y : KN) : Prop := fin6 a /\ (y.i < (mS a).ms.length /\ 100 - y.i = m) /\ StmB (12 + 7 * a.m + 5 * y.i) y.x.s /\ mkN a ((mS a).ms.length - (y.i + 1)) (y.i + 1) y.x = Df a /\ y.x.ns.length <= y.i + 1
def c20n (a : MkI) (m : Nat) : Shape := { α := KN, dflt := default, T := λ y => ⟨mdP ++ [(16, .int y.i)], mdH a y.x.s (.d WH)⟩, inv := λ y => BOS a m y /\ y.x.ns = [], meas := λ _ => 0 }
def c20o (a : MkI) (m : Nat) (f : List (Nat × Nat)) : Shape := { α := KN, dflt := default, T := λ y => ⟨mdP ++ [(16, .int y.i)], mdH a y.x.s (.own 305 5 0 y.x.ns.length) ++ [(305, .live (rowN y.x.ns))]⟩, inv := λ y => BOS a m y /\ 1 <= y.x.ns.length, meas := λ _ => 0, first := f }
def BWB (a : MkI) : Shape := { α := One, dflt := default, T := λ _ => ⟨mdP, mdH a (Df a).s (.d WH)⟩, inv := λ _ => fin6 a /\ (Df a).ns = [], meas := λ _ => 0, tag := [0] }
def BVW (a : MkI) : Shape := { α := One, dflt := default, T := λ _ => ⟨mdP, mdH a (Df a).s (.own 305 5 0 (Df a).ns.length) ++ [(305, .live (rowN (Df a).ns))]⟩, inv := λ _ => fin6 a /\ StmB (7 + 7 * a.m + 5 * a.m) (Df a).s /\ (1 <= (Df a).ns.length /\ ((Df a).ns.length : Int) <= a.m), meas := λ _ => 0, tag := [1] }
def BVV (a : MkI) (y : KN) : Prop := fin6 a /\ y.i < y.x.ns.length /\ StmB (7 + 7 * a.m + 5 * a.m + a.m - y.i) y.x.s /\ shK y.i y.x = mE a /\ (y.x.ns.length : Int) <= a.m
def BUU (a : MkI) : Shape := { α := One, dflt := default, T := λ _ => ⟨mdP ++ [(17, .int (-1))], mdH a (mE a).s (.d WH)⟩, inv := λ y => (mE a).ns = [], meas := λ y => 100 }
def BUL (a : MkI) : Shape := { α := KN, dflt := default, T := λ y => ⟨mdP ++ [(17, .int y.i)], mdH a y.x.s (.own 305 5 0 y.x.ns.length) ++ [(305, .live (rowN y.x.ns))]⟩, inv := λ y => BVV a y, meas := λ y => y.i }
def hdP (b : Bool) (a : MkI) : List (Nat × AVal) := [(0, .bptr 100 0), (1, .int a.m), (2, .bool b), (6, .bptr 1000 0), (7, .bptr 1016 0), (8, .bptr 2160 0)]
def ch2 (b : Bool) (a : MkI) : Shape := { α := One, dflt := default, T := λ _ => ⟨hdP b a, [(100, stmH (gS4 a.s)), (1000, zCh), (1016, zTr), (2160, .live (.box [.int (QS a.s), .int 0, .int (ZE a.s), .int (VN a.s), .int (TH a.s), .d WH, .d WH]))]⟩, inv := λ _ => StmB 4 (gS4 a.s), meas := λ _ => 0 }
def ch3 (b : Bool) (a : MkI) : Shape := { α := One, dflt := default, T := λ _ => ⟨hdP b a, [(100, stmH (gS5 a.s)), (1000, zCh), (1016, zTr), (2160, chC a (.d WH) (.d WH))]⟩, inv := λ _ => StmB 5 (gS5 a.s), meas := λ _ => 0 }
def ch5 (b : Bool) (a : MkI) : Shape := { α := One, dflt := default, T := λ _ => ⟨hdP b a ++ [(9, .bptr 4000 0), (10, .int 0), (11, .int (hTm a.s))], [(100, stmH (gS6 a.s)), (1000, zCh), (1016, zTr), (2160, chC a (.d WH) (.d WH)), (4000, zTr)]⟩, inv := λ _ => StmB 6 (gS6 a.s), meas := λ _ => 0 }
def BQA (a : MkI) (y : KS) : Prop := dD a (y.k - 1) (zL a (advZ a y.x)) = mS a /\ (1 <= y.k /\ (y.k : Int) <= a.m) /\ StmB (9 + 7 * (a.m - y.k)) y.x.s /\ ((y.x.ms.length : Int) + y.k <= a.m /\ y.x.t.length = y.x.ms.length /\ y.x.st.length = y.x.ms.length /\ y.x.z.length + 1 <= y.x.ms.length)
def c12o (b : Bool) (a : MkI) (m : Nat) : Shape := { α := KS, dflt := default, T := λ y => ⟨mdS b y, hpO a y⟩, inv := λ y => BQA a y /\ y.k + 20 <= m /\ 1 <= y.x.ms.length /\ y.x.z = [], meas := λ _ => 0 }
def c12p (b : Bool) (a : MkI) (m : Nat) : Shape := { α := KS, dflt := default, T := λ y => ⟨mdS b y, hpP a y⟩, inv := λ y => BQA a y /\ y.k <= m /\ 1 <= y.x.ms.length /\ 1 <= y.x.z.length, meas := λ _ => 0 }
def yO (b : Bool) : Ctr := { α := MkI, xs := λ a => [.bptr 100 0, .int a.m, .bool b], L := λ a => [(100, stmO a.s)], val := λ a => .tup [.d (aK (XB a)), .d (eTru (F2 a))], keep := λ a => [(100, stmH (mE a).s)], pre := λ a => [preM a /\ a.b = b] }
def BAX (b : Bool) (a : MkI) : Ann := { ann 217 [(ANL, C_Next.spec ATB), (AEW, C_Within.spec ARX)] with E := [100], md := λ id => if id = 12 then some (λ k => if k = 2 ∨ k = 3 ∨ k = 4 then (bif b then 8 else 9) else 0) else none, mt := λ id => id == 13 || id == 17 || id == 22, loops := λ id => if id = 6 then (bif b then some [md6n b a, md6o b a, md6p b a] else some [md6n b a, md6o b a]) else if id = 19 then some [BUB a, BVZ a] else none, inner := λ gs id => if id = 24 then (if gs.getD 0 0 = 0 then some [BUU a] else some [BUL a]) else none, cut := λ id => if id = 2 then some [ch2 b a] else if id = 3 then some [ch3 b a] else if id = 5 then some [ch5 b a] else if id = 18 then (bif b then some [md18 a [301, 302, 303], md18 a [301, 302, 303, 304]] else some [md18 a [301, 302, 303]]) else if id = 23 then some [BWB a, BVW a] else none, cutIn := λ gs id => if id = 15 then some (c15 b a (gs.getD 0 0) (gs.getD 1 0)) else if id = 12 then (if gs.getD 1 0 = 1 then some [c12o b a (gs.getD 0 0)] else some [c12p b a (gs.getD 0 0)]) else if id = 22 then (if gs.getD 1 0 = 0 then some [c22n a (gs.getD 0 0)] else some [c22o a (gs.getD 0 0)]) else if id = 20 then (if gs.getD 1 0 = 0 then some [c20n a (gs.getD 0 0), c20o a (gs.getD 0 0) [(305, 23640)]] else some [c20o a (gs.getD 0 0) [(305, 23640)], c20o a (gs.getD 0 0) []]) else none }
end Go.Bal
