/- Package chart: charts and truths that are made of numbers. -/
import Derived.Test.YtdbjalgfomknhaaChV
set_option linter.unusedVariables false
set_option linter.unusedSimpArgs false
namespace Go.Bal
open Go Go.Sym Go.Proofs
structure MkI where
 s : Stm
 m : Int
 b : Bool
def dMkI (b : Bool) : List AVal -> Heap -> Option (MkI × List (Nat × Nat) × List Nat)
 | [.bptr p _, .d (.v (.int _ n)), .d (.v (.bool c))], H => match c == b, decStm H p with
  | true, some s => some (⟨s, n, b⟩, [(100, p)], [])
  | _, _ => none
 | _, _ => none
def gS1 (s : Stm) : Stm := witS s 1 12
def gS2 (s : Stm) : Stm := witS (gS1 s) (-50) 400
def gS3 (s : Stm) : Stm := nextS (gS2 s) 12
def gS4 (s : Stm) : Stm := nextS (gS3 s) 9
def gS5 (s : Stm) : Stm := nextS (gS4 s) 6
def gS6 (s : Stm) : Stm := nextS (gS5 s) 300
def hLo (s : Stm) : Int := witV s 1 12
def hHi (s : Stm) : Int := wr (hLo s + nextV (gS4 s) 6)
def hBs (s : Stm) : Int := witV (gS1 s) (-50) 400
def hSc (s : Stm) : Int := nextV (gS2 s) 12
def hOf (s : Stm) : Int := nextV (gS3 s) 9
def hTm (s : Stm) : Int := nextV (gS5 s) 300
structure MS where
 s : Stm
 pl : Int
 tm : Int
 ms : List Mk
 t : List Int
 st : List Int
 z : List Int
 deriving Inhabited
def farV (x : MS) : Int := witV x.s 1 30
def advA (a : MkI) (x : MS) : MS := ⟨witS (witS x.s 1 30) (wr (hLo a.s * farV x)) (wr (hHi a.s * farV x)), wr (x.pl + farV x), wr (x.tm + witV (witS x.s 1 30) (wr (hLo a.s * farV x)) (wr (hHi a.s * farV x))), x.ms, x.t, x.st, x.z⟩
def advZ (a : MkI) (x : MS) : MS := bif a.b then bif nextV x.s 5 == 0 then ⟨nextS (nextS x.s 5) 400, x.pl, wr (x.tm + nextV (nextS x.s 5) 400), x.ms, x.t, x.st, x.z ++ [wr ((x.ms.length : Int) - 1)]⟩ else ⟨nextS x.s 5, x.pl, x.tm, x.ms, x.t, x.st, x.z⟩ else x
def yAt (a : MkI) (x : MS) : Int := wr (hBs a.s + wr (hSc a.s * nextV x.s 60))
def addM (a : MkI) (x : MS) : MS := ⟨witS (nextS x.s 60) (wr (yAt a x - hOf a.s)) (wr (yAt a x + hOf a.s)), x.pl, x.tm, x.ms ++ [⟨x.pl, nextV x.s 60⟩], x.t ++ [x.tm], x.st ++ [witV (nextS x.s 60) (wr (yAt a x - hOf a.s)) (wr (yAt a x + hOf a.s))], x.z⟩
def goM (a : MkI) (x : MS) : MS := bif decide (0 < x.ms.length) then advZ a (advA a x) else x
def stpC (a : MkI) (x : MS) : MS := addM a (goM a x)
def mkCh (a : MkI) : Nat -> MS -> MS
 | 0, x => x
 | n + 1, x => mkCh a n (stpC a x)
def mS0 (a : MkI) : MS := ⟨witS (gS6 a.s) 1 a.m, 0, hTm a.s, [], [], [], []⟩
def mN (a : MkI) : Nat := (witV (gS6 a.s) 1 a.m).toNat
def mS (a : MkI) : MS := mkCh a (mN a) (mS0 a)
structure NSt where
 s : Stm
 ns : List Nt
 deriving Inhabited
def nS2 (s : Stm) : Stm := nextS s 40
def nS3 (s : Stm) : Stm := nextS (nS2 s) 40
def nS4 (s : Stm) : Stm := nextS (nS3 s) 9
def nS5 (s : Stm) : Stm := nextS (nS4 s) 9
def mkNt (a : MkI) (s : Stm) (i : Nat) : Nt := ⟨i, ⟨maxI 0 (wr (gD (mS a).t i - nextV s 40)), wr (gD (mS a).t i + nextV (nS2 s) 40)⟩, ⟨wr (gD (mS a).st i - nextV (nS3 s) 9), wr (gD (mS a).st i + nextV (nS4 s) 9)⟩⟩
def addN (a : MkI) (b : Bool) (i : Nat) (x : NSt) : NSt := bif b then ⟨nS5 x.s, x.ns ++ [mkNt a x.s i]⟩ else x
def stpN (a : MkI) (i : Nat) (x : NSt) : NSt := addN a (nextV x.s 2 == 0) i ⟨nextS x.s 2, x.ns⟩
def mkN (a : MkI) : Nat -> Nat -> NSt -> NSt
 | 0, _, x => x
 | n + 1, i, x => mkN a n (i + 1) (stpN a i x)
def mNs (a : MkI) : NSt := mkN a (mS a).ms.length 0 ⟨(mS a).s, []⟩
def swN (l : List Nt) (i k : Nat) : List Nt := (l.set i (gD l k)).set k (gD l i)
def shK : Nat -> NSt -> NSt
 | 0, x => x
 | j + 1, x => shK j ⟨nextS x.s ((j : Int) + 2), swN x.ns (j + 1) (nextV x.s ((j : Int) + 2)).toNat⟩
def mE (a : MkI) : NSt := shK ((mNs a).ns.length - 1) (mNs a)
def mdC (a : MkI) : Cht := ⟨⟨hLo a.s, hHi a.s⟩, hBs a.s, hSc a.s, hOf a.s, (mS a).ms, (mE a).ns⟩
def mdT (a : MkI) : Tru := ⟨(mS a).t, (mS a).st, (mS a).z⟩
structure KS where
 k : Nat
 x : MS
 deriving Inhabited
structure KN where
 i : Nat
 x : NSt
 deriving Inhabited
def preM (a : MkI) : Prop := StmB 0 a.s /\ 1 <= a.m /\ a.m <= 14
def rowM (l : List Mk) : AObj := .row 2 l.length λ i => eMk (gD l i)
def rowN (l : List Nt) : AObj := .row 5 l.length λ i => eNt (gD l i)
def zCh : HCell := .live (.box [.int 0, .int 0, .int 0, .int 0, .int 0, .d nilL, .d nilL])
def zTr : HCell := .live (.box [.d nilL, .d nilL, .d nilL])
def chC (a : MkI) (m n : AVal) : HCell := .live (.box [.int (hLo a.s), .int (hHi a.s), .int (hBs a.s), .int (hSc a.s), .int (hOf a.s), m, n])
def trC (t s z : AVal) : HCell := .live (.box [t, s, z])
def mdP : List (Nat × AVal) := [(0, .bptr 100 0), (6, .bptr 1000 0), (7, .bptr 1016 0), (8, .bptr 2160 0), (9, .bptr 4000 0)]
def mdS (b : Bool) (y : KS) : List (Nat × AVal) := mdP ++ [(2, .bool b), (10, .int y.x.pl), (11, .int y.x.tm), (12, .int y.k)]
def inv6 (a : MkI) (y : KS) : Prop := mkCh a y.k y.x = mS a /\ (y.k : Int) <= a.m /\ StmB (7 + 7 * (a.m - y.k)) y.x.s /\ ((y.x.ms.length : Int) + y.k <= a.m /\ y.x.t.length = y.x.ms.length /\ y.x.st.length = y.x.ms.length /\ (y.x.z = [] ∨ y.x.z.length + 1 <= y.x.ms.length))
def mdO (y : KS) : List (Nat × HCell) := [(301, .live (rowM y.x.ms)), (302, .live (rowI y.x.t)), (303, .live (rowI y.x.st))]
def ownM (y : KS) : AVal := .own 301 2 0 y.x.ms.length
def ownT (y : KS) (z : AVal) : HCell := trC (.own 302 1 0 y.x.t.length) (.own 303 1 0 y.x.st.length) z
def hpN (a : MkI) (y : KS) : List (Nat × HCell) := [(100, stmH y.x.s), (1000, zCh), (1016, zTr), (2160, chC a (.d nilL) (.d nilL)), (4000, zTr)]
def hpO (a : MkI) (y : KS) : List (Nat × HCell) := [(100, stmH y.x.s), (1000, zCh), (1016, zTr), (2160, chC a (ownM y) (.d nilL)), (4000, ownT y (.d nilL))] ++ mdO y
def hpP (a : MkI) (y : KS) : List (Nat × HCell) := [(100, stmH y.x.s), (1000, zCh), (1016, zTr), (2160, chC a (ownM y) (.d nilL)), (4000, ownT y (.own 304 1 0 y.x.z.length))] ++ mdO y ++ [(304, .live (rowI y.x.z))]
def md6n (b : Bool) (a : MkI) : Shape := { α := KS, dflt := default, T := λ y => ⟨mdS b y, hpN a y⟩, inv := λ y => inv6 a y /\ 1 <= y.k /\ y.x.ms = [] /\ y.x.z = [], meas := λ y => 100, tag := [0] }
def md6o (b : Bool) (a : MkI) : Shape := { α := KS, dflt := default, T := λ y => ⟨mdS b y, hpO a y⟩, inv := λ y => inv6 a y /\ 1 <= y.x.ms.length /\ y.x.z = [], meas := λ y => y.k + 20, again := [(301, 18064), (302, 18144), (303, 18368)], tag := [1] }
def md6p (b : Bool) (a : MkI) : Shape := { α := KS, dflt := default, T := λ y => ⟨mdS b y, hpP a y⟩, inv := λ y => inv6 a y /\ 1 <= y.x.ms.length /\ 1 <= y.x.z.length, meas := λ y => y.k, again := [(301, 18064), (302, 18144), (303, 18368)], tag := [2] }
def inv15 (a : MkI) (y : KS) : Prop := mkCh a (y.k - 1) (addM a y.x) = mS a /\ (1 <= y.k /\ (y.k : Int) <= a.m) /\ StmB (11 + 7 * (a.m - y.k)) y.x.s /\ ((y.x.ms.length : Int) + y.k <= a.m /\ y.x.t.length = y.x.ms.length /\ y.x.st.length = y.x.ms.length /\ y.x.z.length <= y.x.ms.length)
def c15n (b : Bool) (a : MkI) (m : Nat) : Shape := { α := KS, dflt := default, T := λ y => ⟨mdS b y, hpN a y⟩, inv := λ y => inv15 a y /\ m = 100 /\ y.x.ms = [] /\ y.x.z = [], meas := λ _ => 0 }
def c15o (b : Bool) (a : MkI) (m : Nat) : Shape := { α := KS, dflt := default, T := λ y => ⟨mdS b y, hpO a y⟩, inv := λ y => inv15 a y /\ y.k + 20 <= m /\ 1 <= y.x.ms.length /\ y.x.z = [], meas := λ _ => 0 }
def c15p (b : Bool) (a : MkI) (m : Nat) (f : List (Nat × Nat)) : Shape := { α := KS, dflt := default, T := λ y => ⟨mdS b y, hpP a y⟩, inv := λ y => inv15 a y /\ y.k <= m /\ 1 <= y.x.ms.length /\ 1 <= y.x.z.length, meas := λ _ => 0, first := f }
def c15 (b : Bool) (a : MkI) (m : Nat) : Nat -> List Shape
 | 0 => [c15n b a m]
 | 1 => bif b then [c15o b a m, c15p b a m [(304, 14112)]] else [c15o b a m]
 | _ => [c15p b a m [(304, 14112)], c15p b a m []]
def mdH (a : MkI) (s : Stm) (n : AVal) : List (Nat × HCell) := [(100, stmH s), (1000, zCh), (1016, zTr), (2160, chC a (.d (eMks (mS a).ms)) n), (4000, trC (.d (eIntsL (mS a).t)) (.d (eIntsL (mS a).st)) (.d (eIntsL (mS a).z)))]
def fin6 (a : MkI) : Prop := inv6 a ⟨0, mS a⟩
def md18 (a : MkI) (z : List Nat) : Shape := { α := One, dflt := default, T := λ _ => ⟨mdP, mdH a (mS a).s (.d nilL)⟩, inv := λ _ => fin6 a, meas := λ _ => 0, ffz := z }
def inv19 (a : MkI) (y : KN) : Prop := fin6 a /\ y.i <= (mS a).ms.length /\ StmB (7 + 7 * a.m + 5 * y.i) y.x.s /\ mkN a ((mS a).ms.length - y.i) y.i y.x = mNs a /\ y.x.ns.length <= y.i
def md19n (a : MkI) : Shape := { α := KN, dflt := default, T := λ y => ⟨mdP ++ [(16, .int y.i)], mdH a y.x.s (.d nilL)⟩, inv := λ y => inv19 a y /\ y.x.ns = [], meas := λ y => 100 - y.i, tag := [0] }
def md19o (a : MkI) : Shape := { α := KN, dflt := default, T := λ y => ⟨mdP ++ [(16, .int y.i)], mdH a y.x.s (.own 305 5 0 y.x.ns.length) ++ [(305, .live (rowN y.x.ns))]⟩, inv := λ y => inv19 a y /\ 1 <= y.x.ns.length, meas := λ y => 100 - y.i, tag := [1] }
structure KNb where
 i : Nat
 x : NSt
 b : Bool
 deriving Inhabited
def inv22 (a : MkI) (m : Nat) (y : KNb) : Prop := fin6 a /\ (y.i < (mS a).ms.length /\ 100 - y.i = m) /\ StmB (8 + 7 * a.m + 5 * y.i) y.x.s /\ mkN a ((mS a).ms.length - (y.i + 1)) (y.i + 1) (addN a y.b y.i y.x) = mNs a /\ y.x.ns.length <= y.i
def c22n (a : MkI) (m : Nat) : Shape := { α := KNb, dflt := default, T := λ y => ⟨mdP ++ [(16, .int y.i), (142, .bool y.b)], mdH a y.x.s (.d nilL)⟩, inv := λ y => inv22 a m y /\ y.x.ns = [], meas := λ _ => 0 }
def c22o (a : MkI) (m : Nat) : Shape := { α := KNb, dflt := default, T := λ y => ⟨mdP ++ [(16, .int y.i), (142, .bool y.b)], mdH a y.x.s (.own 305 5 0 y.x.ns.length) ++ [(305, .live (rowN y.x.ns))]⟩, inv := λ y => inv22 a m y /\ 1 <= y.x.ns.length, meas := λ _ => 0 }
def inv20 (a : MkI) (m : Nat) (y : KN) : Prop := fin6 a /\ (y.i < (mS a).ms.length /\ 100 - y.i = m) /\ StmB (12 + 7 * a.m + 5 * y.i) y.x.s /\ mkN a ((mS a).ms.length - (y.i + 1)) (y.i + 1) y.x = mNs a /\ y.x.ns.length <= y.i + 1
def c20n (a : MkI) (m : Nat) : Shape := { α := KN, dflt := default, T := λ y => ⟨mdP ++ [(16, .int y.i)], mdH a y.x.s (.d nilL)⟩, inv := λ y => inv20 a m y /\ y.x.ns = [], meas := λ _ => 0 }
def c20o (a : MkI) (m : Nat) (f : List (Nat × Nat)) : Shape := { α := KN, dflt := default, T := λ y => ⟨mdP ++ [(16, .int y.i)], mdH a y.x.s (.own 305 5 0 y.x.ns.length) ++ [(305, .live (rowN y.x.ns))]⟩, inv := λ y => inv20 a m y /\ 1 <= y.x.ns.length, meas := λ _ => 0, first := f }
def md23n (a : MkI) : Shape := { α := One, dflt := default, T := λ _ => ⟨mdP, mdH a (mNs a).s (.d nilL)⟩, inv := λ _ => fin6 a /\ (mNs a).ns = [], meas := λ _ => 0, tag := [0] }
def md23o (a : MkI) : Shape := { α := One, dflt := default, T := λ _ => ⟨mdP, mdH a (mNs a).s (.own 305 5 0 (mNs a).ns.length) ++ [(305, .live (rowN (mNs a).ns))]⟩, inv := λ _ => fin6 a /\ StmB (7 + 7 * a.m + 5 * a.m) (mNs a).s /\ (1 <= (mNs a).ns.length /\ ((mNs a).ns.length : Int) <= a.m), meas := λ _ => 0, tag := [1] }
def inv24 (a : MkI) (y : KN) : Prop := fin6 a /\ y.i < y.x.ns.length /\ StmB (7 + 7 * a.m + 5 * a.m + a.m - y.i) y.x.s /\ shK y.i y.x = mE a /\ (y.x.ns.length : Int) <= a.m
def md24n (a : MkI) : Shape := { α := One, dflt := default, T := λ _ => ⟨mdP ++ [(17, .int (-1))], mdH a (mE a).s (.d nilL)⟩, inv := λ y => (mE a).ns = [], meas := λ y => 100 }
def md24o (a : MkI) : Shape := { α := KN, dflt := default, T := λ y => ⟨mdP ++ [(17, .int y.i)], mdH a y.x.s (.own 305 5 0 y.x.ns.length) ++ [(305, .live (rowN y.x.ns))]⟩, inv := λ y => inv24 a y, meas := λ y => y.i }
def hdP (b : Bool) (a : MkI) : List (Nat × AVal) := [(0, .bptr 100 0), (1, .int a.m), (2, .bool b), (6, .bptr 1000 0), (7, .bptr 1016 0), (8, .bptr 2160 0)]
def ch2 (b : Bool) (a : MkI) : Shape := { α := One, dflt := default, T := λ _ => ⟨hdP b a, [(100, stmH (gS4 a.s)), (1000, zCh), (1016, zTr), (2160, .live (.box [.int (hLo a.s), .int 0, .int (hBs a.s), .int (hSc a.s), .int (hOf a.s), .d nilL, .d nilL]))]⟩, inv := λ _ => StmB 4 (gS4 a.s), meas := λ _ => 0 }
def ch3 (b : Bool) (a : MkI) : Shape := { α := One, dflt := default, T := λ _ => ⟨hdP b a, [(100, stmH (gS5 a.s)), (1000, zCh), (1016, zTr), (2160, chC a (.d nilL) (.d nilL))]⟩, inv := λ _ => StmB 5 (gS5 a.s), meas := λ _ => 0 }
def ch5 (b : Bool) (a : MkI) : Shape := { α := One, dflt := default, T := λ _ => ⟨hdP b a ++ [(9, .bptr 4000 0), (10, .int 0), (11, .int (hTm a.s))], [(100, stmH (gS6 a.s)), (1000, zCh), (1016, zTr), (2160, chC a (.d nilL) (.d nilL)), (4000, zTr)]⟩, inv := λ _ => StmB 6 (gS6 a.s), meas := λ _ => 0 }
def inv12 (a : MkI) (y : KS) : Prop := mkCh a (y.k - 1) (addM a (advZ a y.x)) = mS a /\ (1 <= y.k /\ (y.k : Int) <= a.m) /\ StmB (9 + 7 * (a.m - y.k)) y.x.s /\ ((y.x.ms.length : Int) + y.k <= a.m /\ y.x.t.length = y.x.ms.length /\ y.x.st.length = y.x.ms.length /\ y.x.z.length + 1 <= y.x.ms.length)
def c12o (b : Bool) (a : MkI) (m : Nat) : Shape := { α := KS, dflt := default, T := λ y => ⟨mdS b y, hpO a y⟩, inv := λ y => inv12 a y /\ y.k + 20 <= m /\ 1 <= y.x.ms.length /\ y.x.z = [], meas := λ _ => 0 }
def c12p (b : Bool) (a : MkI) (m : Nat) : Shape := { α := KS, dflt := default, T := λ y => ⟨mdS b y, hpP a y⟩, inv := λ y => inv12 a y /\ y.k <= m /\ 1 <= y.x.ms.length /\ 1 <= y.x.z.length, meas := λ _ => 0 }
def C_Made (b : Bool) : Ctr := { α := MkI, xs := λ a => [.bptr 100 0, .int a.m, .bool b], L := λ a => [(100, stmO a.s)], val := λ a => .tup [.d (eCht (mdC a)), .d (eTru (mdT a))], keep := λ a => [(100, stmH (mE a).s)], pre := λ a => [preM a /\ a.b = b] }
def A_Made (b : Bool) (a : MkI) : Ann := { ann 217 [(n_Next, C_Next.spec d_Next), (n_Within, C_Within.spec d_Within)] with E := [100], md := λ id => if id = 12 then some (λ k => if k = 2 ∨ k = 3 ∨ k = 4 then (bif b then 8 else 9) else 0) else none, mt := λ id => id == 13 || id == 17 || id == 22, loops := λ id => if id = 6 then (bif b then some [md6n b a, md6o b a, md6p b a] else some [md6n b a, md6o b a]) else if id = 19 then some [md19n a, md19o a] else none, inner := λ gs id => if id = 24 then (if gs.getD 0 0 = 0 then some [md24n a] else some [md24o a]) else none, cut := λ id => if id = 2 then some [ch2 b a] else if id = 3 then some [ch3 b a] else if id = 5 then some [ch5 b a] else if id = 18 then (bif b then some [md18 a [301, 302, 303], md18 a [301, 302, 303, 304]] else some [md18 a [301, 302, 303]]) else if id = 23 then some [md23n a, md23o a] else none, cutIn := λ gs id => if id = 15 then some (c15 b a (gs.getD 0 0) (gs.getD 1 0)) else if id = 12 then (if gs.getD 1 0 = 1 then some [c12o b a (gs.getD 0 0)] else some [c12p b a (gs.getD 0 0)]) else if id = 22 then (if gs.getD 1 0 = 0 then some [c22n a (gs.getD 0 0)] else some [c22o a (gs.getD 0 0)]) else if id = 20 then (if gs.getD 1 0 = 0 then some [c20n a (gs.getD 0 0), c20o a (gs.getD 0 0) [(305, 23640)]] else some [c20o a (gs.getD 0 0) [(305, 23640)], c20o a (gs.getD 0 0) []]) else none }
def V_MadeF (a : MkI) : Prop := fnVC Try.prog (A_Made false a) F_Made (bodyOf F_Made) ((C_Made false).xs a) (heapOf ((C_Made false).L a)) ((C_Made false).val a) ((C_Made false).keep a) [] [305]
abbrev z_MadeF_0 : Prop := (1 : Int) = Int.ofNat (1 : Nat)
abbrev z_MadeF_1 : Prop := (12 : Int) = Int.ofNat (12 : Nat)
abbrev z_MadeF_2 (a : MkI) : List Int := rng a.s.bs.length λ (i : Nat) => gD a.s.bs i
abbrev z_MadeF_3 (a : MkI) : Nat := (z_MadeF_2 a).length
abbrev z_MadeF_4 (a : MkI) : Stm := Stm.mk (z_MadeF_2 a) a.s.used a.s.mix
abbrev z_MadeF_5 (a : MkI) : Stm := witS (z_MadeF_4 a) (1 : Int) (12 : Int)
abbrev z_MadeF_6 (a : MkI) : List Int := (z_MadeF_5 a).bs
abbrev z_MadeF_7 (a : MkI) : Nat := (z_MadeF_6 a).length
abbrev z_MadeF_8 (a : MkI) (i : Nat) : Int := gD (z_MadeF_6 a) i
abbrev z_MadeF_9 (a : MkI) : List Int := rng (z_MadeF_7 a) λ (i : Nat) => z_MadeF_8 a i
abbrev z_MadeF_10 (a : MkI) : Nat := (z_MadeF_9 a).length
abbrev z_MadeF_11 (a : MkI) : Int := (z_MadeF_5 a).used
abbrev z_MadeF_12 (a : MkI) : Int := (z_MadeF_5 a).mix
abbrev z_MadeF_13 (a : MkI) : Stm := Stm.mk (z_MadeF_9 a) (z_MadeF_11 a) (z_MadeF_12 a)
abbrev z_MadeF_14 (a : MkI) : Stm := witS (z_MadeF_13 a) (-50 : Int) (400 : Int)
abbrev z_MadeF_15 (a : MkI) : List Int := (z_MadeF_14 a).bs
abbrev z_MadeF_16 (a : MkI) : Nat := (z_MadeF_15 a).length
abbrev z_MadeF_17 (a : MkI) (i : Nat) : Int := gD (z_MadeF_15 a) i
abbrev z_MadeF_18 (a : MkI) : List Int := rng (z_MadeF_16 a) λ (i : Nat) => z_MadeF_17 a i
abbrev z_MadeF_19 (a : MkI) : Nat := (z_MadeF_18 a).length
abbrev z_MadeF_20 (a : MkI) : Int := (z_MadeF_14 a).used
abbrev z_MadeF_21 (a : MkI) : Int := (z_MadeF_14 a).mix
abbrev z_MadeF_22 : Prop := (9 : Int) = Int.ofNat (9 : Nat)
abbrev z_MadeF_23 (a : MkI) : Stm := Stm.mk (z_MadeF_18 a) (z_MadeF_20 a) (z_MadeF_21 a)
abbrev z_MadeF_24 (a : MkI) : Stm := nextS (z_MadeF_23 a) (12 : Int)
abbrev z_MadeF_25 (a : MkI) : List Int := (z_MadeF_24 a).bs
abbrev z_MadeF_26 (a : MkI) : Nat := (z_MadeF_25 a).length
abbrev z_MadeF_27 (a : MkI) (i : Nat) : Int := gD (z_MadeF_25 a) i
abbrev z_MadeF_28 (a : MkI) : List Int := rng (z_MadeF_26 a) λ (i : Nat) => z_MadeF_27 a i
abbrev z_MadeF_29 (a : MkI) : Nat := (z_MadeF_28 a).length
abbrev z_MadeF_30 (a : MkI) : Int := (z_MadeF_24 a).used
abbrev z_MadeF_31 (a : MkI) : Int := (z_MadeF_24 a).mix
abbrev z_MadeF_32 (a : MkI) : Stm := Stm.mk (z_MadeF_28 a) (z_MadeF_30 a) (z_MadeF_31 a)
abbrev z_MadeF_33 (a : MkI) : Stm := nextS (z_MadeF_32 a) (9 : Int)
abbrev z_MadeF_34 (a : MkI) : List Int := (z_MadeF_33 a).bs
abbrev z_MadeF_35 : Prop := Int.ofNat (0 : Nat) = Int.ofNat (0 : Nat)
abbrev z_MadeF_36 : Prop := (0 : Nat) = (0 : Nat)
abbrev z_MadeF_37 : Prop := ∀ (i : Nat), i < (0 : Nat) -> false = false
abbrev z_MadeF_38 : Prop := z_MadeF_36 /\ z_MadeF_37 /\ z_MadeF_36 /\ z_MadeF_37
abbrev z_MadeF_39 (a : MkI) : List Int := rng (gS4 a.s).bs.length λ (i : Nat) => gD (gS4 a.s).bs i
abbrev z_MadeF_40 (a : MkI) : Nat := (z_MadeF_39 a).length
abbrev z_MadeF_41 (a : MkI) : Stm := Stm.mk (z_MadeF_39 a) (gS4 a.s).used (gS4 a.s).mix
abbrev z_MadeF_42 (a : MkI) : Stm := nextS (z_MadeF_41 a) (6 : Int)
abbrev z_MadeF_43 (a : MkI) : List Int := (z_MadeF_42 a).bs
abbrev z_MadeF_44 (a : MkI) : List Int := rng (gS5 a.s).bs.length λ (i : Nat) => gD (gS5 a.s).bs i
abbrev z_MadeF_45 (a : MkI) : Nat := (z_MadeF_44 a).length
abbrev z_MadeF_46 (a : MkI) : Stm := Stm.mk (z_MadeF_44 a) (gS5 a.s).used (gS5 a.s).mix
abbrev z_MadeF_47 (a : MkI) : Stm := nextS (z_MadeF_46 a) (300 : Int)
abbrev z_MadeF_48 (a : MkI) : List Int := (z_MadeF_47 a).bs
abbrev z_MadeF_49 (a : MkI) : Prop := z_MadeF_35 /\ z_MadeF_35 /\ z_MadeF_35 /\ z_MadeF_35 /\ z_MadeF_35 /\ z_MadeF_36 /\ z_MadeF_37 /\ z_MadeF_36 /\ z_MadeF_37 /\ z_MadeF_36 /\ z_MadeF_37 /\ z_MadeF_36 /\ z_MadeF_37 /\ z_MadeF_36 /\
 z_MadeF_37 /\ hLo a.s = hLo a.s /\ hHi a.s = hHi a.s /\ hBs a.s = hBs a.s /\ hSc a.s = hSc a.s /\ hOf a.s = hOf a.s /\ z_MadeF_36 /\ z_MadeF_37 /\ z_MadeF_36 /\ z_MadeF_37 /\ z_MadeF_36 /\ z_MadeF_37 /\ z_MadeF_38
abbrev z_MadeF_50 (a : MkI) : List Int := rng (gS6 a.s).bs.length λ (i : Nat) => gD (gS6 a.s).bs i
abbrev z_MadeF_51 (a : MkI) : Nat := (z_MadeF_50 a).length
abbrev z_MadeF_52 (a : MkI) : Stm := Stm.mk (z_MadeF_50 a) (gS6 a.s).used (gS6 a.s).mix
abbrev z_MadeF_53 (a : MkI) : Stm := witS (z_MadeF_52 a) (1 : Int) a.m
abbrev z_MadeF_54 (a : MkI) : List Int := (z_MadeF_53 a).bs
abbrev z_MadeF_55 (i : Nat) (a : KS) : Prop := i < a.x.s.bs.length
abbrev z_MadeF_56 (a : KS) (a1 : MkI) : Prop := (↑a.k : Int) <= a1.m
abbrev z_MadeF_57 (a : MkI) (a1 : KS) : Int := (7 : Int) * (a.m - (↑a1.k : Int))
abbrev z_MadeF_58 (a : KS) (a1 : MkI) : Prop := (↑a.x.ms.length : Int) + (↑a.k : Int) <= a1.m
abbrev z_MadeF_59 (a : KS) : Prop := a.x.t.length = a.x.ms.length
abbrev z_MadeF_60 (a : KS) : Prop := a.x.st.length = a.x.ms.length
abbrev z_MadeF_61 (a : KS) : Prop := a.x.z.length + (1 : Nat) <= a.x.ms.length
abbrev z_MadeF_62 (a : MkI) (a1 : KS) : Prop := mkCh a a1.k a1.x = mS a /\ z_MadeF_56 a1 a /\ StmB ((7 : Int) + z_MadeF_57 a a1) a1.x.s /\ z_MadeF_58 a1 a /\ z_MadeF_59 a1 /\ z_MadeF_60 a1 /\ (a1.x.z = [] ∨ z_MadeF_61 a1)
abbrev z_MadeF_63 (a : KS) : Prop := (1 : Nat) <= a.k
abbrev z_MadeF_64 (a : KS) : Prop := a.x.ms = [] /\ a.x.z = []
abbrev z_MadeF_65 (a : MkI) (a1 : KS) : Prop := z_MadeF_62 a a1 /\ z_MadeF_63 a1 /\ z_MadeF_64 a1
abbrev z_MadeF_66 (a : KS) : Bool := decide ((↑a.k : Int) > (0 : Int))
abbrev z_MadeF_67 (a : KS) (a1 : KS) : Prop := (↑a.k : Int) = (↑a1.k : Int)
abbrev z_MadeF_68 (a : KS) (a1 : KS) : Prop := a.x.s.bs.length = a1.x.s.bs.length
abbrev z_MadeF_69 (a : KS) (a1 : KS) : Prop := ∀ (i : Nat), z_MadeF_55 i a -> gD a.x.s.bs i = gD a1.x.s.bs i
abbrev z_MadeF_70 (a : KS) (a1 : KS) : Prop := a.x.s.used = a1.x.s.used
abbrev z_MadeF_71 (a : KS) (a1 : KS) : Prop := a.x.s.mix = a1.x.s.mix
abbrev z_MadeF_72 (a : KS) : Nat := a.k - (1 : Nat)
abbrev z_MadeF_73 (a : KS) (a1 : MkI) : Prop := z_MadeF_63 a /\ z_MadeF_56 a a1
abbrev z_MadeF_74 (a : MkI) (a1 : KS) : Prop := mkCh a (z_MadeF_72 a1) (addM a a1.x) = mS a /\ z_MadeF_73 a1 a /\ StmB ((11 : Int) + z_MadeF_57 a a1) a1.x.s /\ z_MadeF_58 a1 a /\ z_MadeF_59 a1 /\ z_MadeF_60 a1 /\ a1.x.z.length
 <= a1.x.ms.length
abbrev z_MadeF_75 (a : MkI) (a1 : KS) : Prop := z_MadeF_74 a a1 /\ (100 : Nat) = (100 : Nat) /\ z_MadeF_64 a1
abbrev z_MadeF_76 (a : KS) : List Int := rng a.x.s.bs.length λ (i : Nat) => gD a.x.s.bs i
abbrev z_MadeF_77 (a : KS) : Nat := (z_MadeF_76 a).length
abbrev z_MadeF_78 (a : KS) : Prop := z_MadeF_77 a = a.x.s.bs.length /\ (∀ (i : Nat), i < z_MadeF_77 a -> gD (z_MadeF_76 a) i = gD a.x.s.bs i) /\ a.x.s.used = a.x.s.used /\ a.x.s.mix = a.x.s.mix /\ (a.x.s.used - (0 :
 Int)).NonNeg
abbrev z_MadeF_79 (a : KS) : Prop := (60 : Int) = Int.ofNat (60 : Nat) /\ z_MadeF_78 a
abbrev z_MadeF_80 : Prop := (0 : Nat) < (0 : Nat)
abbrev z_MadeF_81 : Prop := (1 : Nat) <= (1 : Nat)
abbrev z_MadeF_82 : Prop := (0 : Nat) < (1 : Nat)
abbrev z_MadeF_83 : Prop := (2 : Nat) = (2 : Nat)
abbrev z_MadeF_84 : Prop := z_MadeF_81 /\ (z_MadeF_82 -> z_MadeF_83)
abbrev z_MadeF_85 : Prop := true = true -> z_MadeF_82
abbrev z_MadeF_86 : Prop := (1 : Nat) <= (9223372036854775807 : Nat)
abbrev z_MadeF_87 : Prop := (1 : Nat) = (1 : Nat)
abbrev z_MadeF_88 : Prop := z_MadeF_81 /\ (z_MadeF_82 -> z_MadeF_87)
abbrev z_MadeF_89 : Prop := (True /\ (z_MadeF_80 -> (0 : Nat) = (1 : Nat))) /\ z_MadeF_88 /\ z_MadeF_85 /\ z_MadeF_86 /\ (8 : Nat) <= (140737488355328 : Nat)
abbrev z_MadeF_90 (a : KS) : Stm := Stm.mk (z_MadeF_76 a) a.x.s.used a.x.s.mix
abbrev z_MadeF_91 (a : KS) : Int := nextV (z_MadeF_90 a) (60 : Int)
abbrev z_MadeF_92 (a : MkI) (a1 : KS) : Int := IntKind.i64.wrap (hBs a.s + IntKind.i64.wrap (hSc a.s * z_MadeF_91 a1))
abbrev z_MadeF_93 (a : MkI) (a1 : KS) : Int := IntKind.i64.wrap (z_MadeF_92 a a1 - hOf a.s)
abbrev z_MadeF_94 (a : MkI) (a1 : KS) : Prop := z_MadeF_93 a a1 = z_MadeF_93 a a1
abbrev z_MadeF_95 (a : MkI) (a1 : KS) : Int := IntKind.i64.wrap (z_MadeF_92 a a1 + hOf a.s)
abbrev z_MadeF_96 (a : MkI) (a1 : KS) : Prop := z_MadeF_95 a a1 = z_MadeF_95 a a1
abbrev z_MadeF_97 (a : KS) : Stm := nextS (z_MadeF_90 a) (60 : Int)
abbrev z_MadeF_98 (a : KS) : List Int := (z_MadeF_97 a).bs
abbrev z_MadeF_99 (a : KS) : Nat := (z_MadeF_98 a).length
abbrev z_MadeF_100 (a : KS) (i : Nat) : Int := gD (z_MadeF_98 a) i
abbrev z_MadeF_101 (a : KS) : List Int := rng (z_MadeF_99 a) λ (i : Nat) => z_MadeF_100 a i
abbrev z_MadeF_102 (a : KS) : Nat := (z_MadeF_101 a).length
abbrev z_MadeF_103 (a : KS) : Prop := z_MadeF_102 a = z_MadeF_99 a
abbrev z_MadeF_104 (a : KS) : Prop := ∀ (i : Nat), i < z_MadeF_102 a -> gD (z_MadeF_101 a) i = z_MadeF_100 a i
abbrev z_MadeF_105 (a : KS) : Int := (z_MadeF_97 a).used
abbrev z_MadeF_106 (a : KS) : Prop := z_MadeF_105 a = z_MadeF_105 a
abbrev z_MadeF_107 (a : KS) : Int := (z_MadeF_97 a).mix
abbrev z_MadeF_108 (a : KS) : Prop := z_MadeF_107 a = z_MadeF_107 a
abbrev z_MadeF_109 (a : KS) : Prop := (0 : Int) <= z_MadeF_105 a
abbrev z_MadeF_110 (a : KS) (a1 : KS) : Prop := (↑a.k : Int) = IntKind.i64.wrap ((↑a1.k : Int) - (1 : Int))
abbrev z_MadeF_111 (a : KS) : Stm := Stm.mk (z_MadeF_101 a) (z_MadeF_105 a) (z_MadeF_107 a)
abbrev z_MadeF_112 (a : KS) (a1 : MkI) : Stm := witS (z_MadeF_111 a) (z_MadeF_93 a1 a) (z_MadeF_95 a1 a)
abbrev z_MadeF_113 (a : KS) (a1 : MkI) : List Int := (z_MadeF_112 a a1).bs
abbrev z_MadeF_114 (a : KS) (a1 : KS) (a2 : MkI) : Prop := a.x.s.bs.length = (z_MadeF_113 a1 a2).length
abbrev z_MadeF_115 (a : KS) (a1 : KS) (a2 : MkI) : Prop := ∀ (i : Nat), z_MadeF_55 i a -> gD a.x.s.bs i = gD (z_MadeF_113 a1 a2) i
abbrev z_MadeF_116 (a : KS) (a1 : KS) (a2 : MkI) : Prop := a.x.s.used = (z_MadeF_112 a1 a2).used
abbrev z_MadeF_117 (a : KS) (a1 : KS) (a2 : MkI) : Prop := a.x.s.mix = (z_MadeF_112 a1 a2).mix
abbrev z_MadeF_118 (a : KS) : Prop := a.x.ms.length = (1 : Nat)
abbrev z_MadeF_119 (a : KS) : Prop := a.x.t.length = (1 : Nat)
abbrev z_MadeF_120 (a : KS) : Prop := a.x.st.length = (1 : Nat)
abbrev z_MadeF_121 (a : KS) (a1 : MkI) : Int := witV (z_MadeF_111 a) (z_MadeF_93 a1 a) (z_MadeF_95 a1 a)
abbrev z_MadeF_122 (a : KS) : Prop := (1 : Nat) <= a.x.ms.length /\ a.x.z = []
abbrev z_MadeF_123 (a : MkI) (a1 : KS) : Prop := z_MadeF_62 a a1 /\ z_MadeF_122 a1
abbrev z_MadeF_124 (a : KS) : Nat := a.k + (20 : Nat)
abbrev z_MadeF_125 (a : MkI) (a1 : KS) : Prop := (mS a).s.bs.length = a1.x.s.bs.length
abbrev z_MadeF_126 (a : MkI) (a1 : KS) : Prop := ∀ (i : Nat), i < (mS a).s.bs.length -> gD (mS a).s.bs i = gD a1.x.s.bs i
abbrev z_MadeF_127 (a : MkI) (a1 : KS) : Prop := (mS a).s.used = a1.x.s.used
abbrev z_MadeF_128 (a : MkI) (a1 : KS) : Prop := (mS a).s.mix = a1.x.s.mix
abbrev z_MadeF_129 (a : MkI) : Prop := (mS a).ms.length = (0 : Nat)
abbrev z_MadeF_130 (a : MkI) : Prop := (mS a).t.length = (0 : Nat)
abbrev z_MadeF_131 (a : MkI) : Prop := (mS a).st.length = (0 : Nat)
abbrev z_MadeF_132 (a : MkI) : Prop := (mS a).z.length = (0 : Nat)
abbrev z_MadeF_133 (a : MkI) : Prop := z_MadeF_132 a /\ z_MadeF_132 a
abbrev z_MadeF_134 (a : MkI) : Prop := mkCh a (0 : Nat) (mS a) = mS a /\ (↑(0 : Nat) : Int) <= a.m /\ StmB ((7 : Int) + (7 : Int) * (a.m - (↑(0 : Nat) : Int))) (mS a).s /\ (↑(mS a).ms.length : Int) + (↑(0 : Nat) : Int) <= a.m
 /\ (mS a).t.length = (mS a).ms.length /\ (mS a).st.length = (mS a).ms.length /\ ((mS a).z = [] ∨ (mS a).z.length + (1 : Nat) <= (mS a).ms.length)
abbrev z_MadeF_135 (a : KS) : Int := witV (z_MadeF_90 a) (1 : Int) (30 : Int)
abbrev z_MadeF_136 (a : MkI) (a1 : KS) : Int := IntKind.i64.wrap (hLo a.s * z_MadeF_135 a1)
abbrev z_MadeF_137 (a : MkI) (a1 : KS) : Int := IntKind.i64.wrap (hHi a.s * z_MadeF_135 a1)
abbrev z_MadeF_138 (a : KS) : Stm := witS (z_MadeF_90 a) (1 : Int) (30 : Int)
abbrev z_MadeF_139 (a : KS) : List Int := (z_MadeF_138 a).bs
abbrev z_MadeF_140 (a : KS) : Nat := (z_MadeF_139 a).length
abbrev z_MadeF_141 (a : KS) (i : Nat) : Int := gD (z_MadeF_139 a) i
abbrev z_MadeF_142 (a : KS) : List Int := rng (z_MadeF_140 a) λ (i : Nat) => z_MadeF_141 a i
abbrev z_MadeF_143 (a : KS) : Nat := (z_MadeF_142 a).length
abbrev z_MadeF_144 (a : KS) : Int := (z_MadeF_138 a).used
abbrev z_MadeF_145 (a : KS) : Int := (z_MadeF_138 a).mix
abbrev z_MadeF_146 (a : KS) : Stm := Stm.mk (z_MadeF_142 a) (z_MadeF_144 a) (z_MadeF_145 a)
abbrev z_MadeF_147 (a : KS) (a1 : MkI) : Stm := witS (z_MadeF_146 a) (z_MadeF_136 a1 a) (z_MadeF_137 a1 a)
abbrev z_MadeF_148 (a : KS) (a1 : MkI) : List Int := (z_MadeF_147 a a1).bs
abbrev z_MadeF_149 (a : KS) (a1 : KS) : Prop := a.x.ms.length = a1.x.ms.length
abbrev z_MadeF_150 (a : KS) (a1 : KS) : Prop := a.x.t.length = a1.x.t.length
abbrev z_MadeF_151 (a : KS) (a1 : KS) : Prop := a.x.st.length = a1.x.st.length
abbrev z_MadeF_152 (a : MkI) (a1 : KS) (a2 : KS) : Prop := z_MadeF_35 /\ z_MadeF_35 /\ z_MadeF_35 /\ z_MadeF_35 /\ z_MadeF_35 /\ z_MadeF_36 /\ z_MadeF_37 /\ z_MadeF_36 /\ z_MadeF_37 /\ z_MadeF_36 /\ z_MadeF_37 /\ z_MadeF_36 /\
 z_MadeF_37 /\ z_MadeF_36 /\ z_MadeF_37 /\ hLo a.s = hLo a.s /\ hHi a.s = hHi a.s /\ hBs a.s = hBs a.s /\ hSc a.s = hSc a.s /\ hOf a.s = hOf a.s /\ z_MadeF_36 /\ z_MadeF_149 a1 a2 /\ z_MadeF_36 /\ z_MadeF_37 /\ z_MadeF_36 /\
 z_MadeF_150 a1 a2 /\ z_MadeF_36 /\ z_MadeF_151 a1 a2 /\ z_MadeF_36 /\ z_MadeF_37 /\ z_MadeF_149 a1 a2 /\ (∀ (i : Nat), i < a1.x.ms.length -> (gD a1.x.ms i).pl = (gD a2.x.ms i).pl /\ (gD a1.x.ms i).ht = (gD a2.x.ms i).ht) /\
 z_MadeF_150 a1 a2 /\ (∀ (i : Nat), i < a1.x.t.length -> gD a1.x.t i = gD a2.x.t i) /\ z_MadeF_151 a1 a2 /\ ∀ (i : Nat), i < a1.x.st.length -> gD a1.x.st i = gD a2.x.st i
abbrev z_MadeF_153 (a : KS) (a1 : KS) : Prop := z_MadeF_124 a <= z_MadeF_124 a1 /\ z_MadeF_122 a
abbrev z_MadeF_154 (a : MkI) (a1 : KS) (a2 : KS) : Prop := (mkCh a (z_MadeF_72 a1) (addM a (advZ a a1.x)) = mS a /\ z_MadeF_73 a1 a /\ StmB ((9 : Int) + z_MadeF_57 a a1) a1.x.s /\ z_MadeF_58 a1 a /\ z_MadeF_59 a1 /\
 z_MadeF_60 a1 /\ z_MadeF_61 a1) /\ z_MadeF_153 a1 a2
abbrev z_MadeF_155 (a : KS) (a1 : KS) (a2 : MkI) : Prop := false = false /\ a.x.pl = a1.x.pl /\ a.x.tm = a1.x.tm /\ z_MadeF_67 a a1 /\ z_MadeF_68 a a1 /\ z_MadeF_69 a a1 /\ z_MadeF_70 a a1 /\ z_MadeF_71 a a1 /\ z_MadeF_152 a2 a
 a1
abbrev z_MadeF_156 (a : MkI) (a1 : KS) (a2 : KS) : Prop := z_MadeF_74 a a1 /\ z_MadeF_153 a1 a2
abbrev z_MadeF_157 : Prop := false = true -> z_MadeF_82
abbrev z_MadeF_158 (a : KS) : Nat := a.x.ms.length + (1 : Nat)
abbrev z_MadeF_159 (a : KS) : Nat := a.x.t.length + (1 : Nat)
abbrev z_MadeF_160 (a : KS) : Nat := a.x.st.length + (1 : Nat)
abbrev z_MadeF_161 (a : KS) (a1 : KS) : Prop := a.x.ms.length = z_MadeF_158 a1
abbrev z_MadeF_162 (a : KS) (a1 : KS) : Prop := a.x.t.length = z_MadeF_159 a1
abbrev z_MadeF_163 (a : KS) (a1 : KS) : Prop := a.x.st.length = z_MadeF_160 a1
abbrev z_MadeF_164 (i : Nat) (a : KS) : Bool := decide (i < a.x.ms.length)
abbrev z_MadeF_165 (j : Nat) : Nat := (0 : Nat) + j
abbrev z_MadeF_166 (a : KS) (j : Nat) : Mk := gD a.x.ms (z_MadeF_165 j)
abbrev z_MadeF_167 (i : Nat) (a : KN) : Prop := i < a.x.s.bs.length
abbrev z_MadeF_168 (a : MkI) : Prop := (mS a).ms.length = (mS a).ms.length
abbrev z_MadeF_169 (a : MkI) : Prop := ∀ (i : Nat), i < (mS a).ms.length -> (gD (mS a).ms i).pl = (gD (mS a).ms i).pl /\ (gD (mS a).ms i).ht = (gD (mS a).ms i).ht
abbrev z_MadeF_170 (a : MkI) : Prop := (mS a).t.length = (mS a).t.length
abbrev z_MadeF_171 (a : MkI) : Prop := ∀ (i : Nat), i < (mS a).t.length -> gD (mS a).t i = gD (mS a).t i
abbrev z_MadeF_172 (a : MkI) : Prop := (mS a).st.length = (mS a).st.length
abbrev z_MadeF_173 (a : MkI) : Prop := ∀ (i : Nat), i < (mS a).st.length -> gD (mS a).st i = gD (mS a).st i
abbrev z_MadeF_174 (a : MkI) : Prop := (mS a).z.length = (mS a).z.length
abbrev z_MadeF_175 (a : MkI) : Prop := ∀ (i : Nat), i < (mS a).z.length -> gD (mS a).z i = gD (mS a).z i
abbrev z_MadeF_176 (a : MkI) : Prop := z_MadeF_35 /\ z_MadeF_35 /\ z_MadeF_35 /\ z_MadeF_35 /\ z_MadeF_35 /\ z_MadeF_36 /\ z_MadeF_37 /\ z_MadeF_36 /\ z_MadeF_37 /\ z_MadeF_36 /\ z_MadeF_37 /\ z_MadeF_36 /\ z_MadeF_37 /\ z_MadeF_36 /\
 z_MadeF_37 /\ hLo a.s = hLo a.s /\ hHi a.s = hHi a.s /\ hBs a.s = hBs a.s /\ hSc a.s = hSc a.s /\ hOf a.s = hOf a.s /\ z_MadeF_168 a /\ z_MadeF_169 a /\ z_MadeF_36 /\ z_MadeF_37 /\ z_MadeF_170 a /\ z_MadeF_171 a /\ z_MadeF_172 a /\
 z_MadeF_173 a /\ z_MadeF_174 a /\ z_MadeF_175 a
abbrev z_MadeF_177 (a : MkI) : Int := (7 : Int) * a.m
abbrev z_MadeF_178 (a : MkI) : Int := (7 : Int) + z_MadeF_177 a
abbrev z_MadeF_179 (a : KN) : Int := (5 : Int) * (↑a.i : Int)
abbrev z_MadeF_180 (a : MkI) (a1 : KN) : Prop := z_MadeF_134 a /\ a1.i <= (mS a).ms.length /\ StmB (z_MadeF_178 a + z_MadeF_179 a1) a1.x.s /\ mkN a ((mS a).ms.length - a1.i) a1.i a1.x = mNs a /\ a1.x.ns.length <= a1.i
abbrev z_MadeF_181 (a : MkI) (a1 : KN) : Prop := z_MadeF_180 a a1 /\ a1.x.ns = []
abbrev z_MadeF_182 (a : KN) (a1 : MkI) : Bool := decide ((↑a.i : Int) < (↑(mS a1).ms.length : Int))
abbrev z_MadeF_183 (a : KN) : List Int := rng a.x.s.bs.length λ (i : Nat) => gD a.x.s.bs i
abbrev z_MadeF_184 (a : KN) : Nat := (z_MadeF_183 a).length
abbrev z_MadeF_185 (a : KN) : Prop := z_MadeF_184 a = a.x.s.bs.length /\ (∀ (i : Nat), i < z_MadeF_184 a -> gD (z_MadeF_183 a) i = gD a.x.s.bs i) /\ a.x.s.used = a.x.s.used /\ a.x.s.mix = a.x.s.mix /\ (a.x.s.used - (0 :
 Int)).NonNeg
abbrev z_MadeF_186 (a : KN) : Prop := (2 : Int) = Int.ofNat (2 : Nat) /\ z_MadeF_185 a
abbrev z_MadeF_187 (a : KNb) (a1 : KN) : Prop := (↑a.i : Int) = (↑a1.i : Int)
abbrev z_MadeF_188 (a : KN) : Stm := Stm.mk (z_MadeF_183 a) a.x.s.used a.x.s.mix
abbrev z_MadeF_189 (a : KNb) (a1 : KN) : Prop := a.b = (nextV (z_MadeF_188 a1) (2 : Int) == (0 : Int))
abbrev z_MadeF_190 (a : KN) : Stm := nextS (z_MadeF_188 a) (2 : Int)
abbrev z_MadeF_191 (a : KN) : List Int := (z_MadeF_190 a).bs
abbrev z_MadeF_192 (a : KNb) (a1 : KN) : Prop := a.x.s.bs.length = (z_MadeF_191 a1).length
abbrev z_MadeF_193 (a : KNb) (a1 : KN) : Prop := ∀ (i : Nat), i < a.x.s.bs.length -> gD a.x.s.bs i = gD (z_MadeF_191 a1) i
abbrev z_MadeF_194 (a : KNb) (a1 : KN) : Prop := a.x.s.used = (z_MadeF_190 a1).used
abbrev z_MadeF_195 (a : KNb) (a1 : KN) : Prop := a.x.s.mix = (z_MadeF_190 a1).mix
abbrev z_MadeF_196 (a : KN) : Nat := (100 : Nat) - a.i
abbrev z_MadeF_197 (a : KNb) : Nat := a.i + (1 : Nat)
abbrev z_MadeF_198 (a : MkI) (a1 : KNb) (a2 : KN) : Prop := z_MadeF_134 a /\ (a1.i < (mS a).ms.length /\ (100 : Nat) - a1.i = z_MadeF_196 a2) /\ StmB ((8 : Int) + z_MadeF_177 a + (5 : Int) * (↑a1.i : Int)) a1.x.s /\ mkN a
 ((mS a).ms.length - z_MadeF_197 a1) (z_MadeF_197 a1) (addN a a1.b a1.i a1.x) = mNs a /\ a1.x.ns.length <= a1.i
abbrev z_MadeF_199 (a : MkI) (a1 : KNb) (a2 : KN) : Prop := z_MadeF_198 a a1 a2 /\ a1.x.ns = []
abbrev z_MadeF_200 (a : KNb) : Prop := (0 : Int) <= (↑a.i : Int)
abbrev z_MadeF_201 (a : KNb) (a1 : MkI) : Prop := z_MadeF_200 a /\ (↑a.i : Int) < (↑(mS a1).t.length : Int)
abbrev z_MadeF_202 : Prop := (40 : Int) = Int.ofNat (40 : Nat)
abbrev z_MadeF_203 (a : KNb) : List Int := rng a.x.s.bs.length λ (i : Nat) => gD a.x.s.bs i
abbrev z_MadeF_204 (a : KNb) : Nat := (z_MadeF_203 a).length
abbrev z_MadeF_205 (a : KNb) : Prop := z_MadeF_204 a = a.x.s.bs.length
abbrev z_MadeF_206 (a : KNb) : Prop := ∀ (i : Nat), i < z_MadeF_204 a -> gD (z_MadeF_203 a) i = gD a.x.s.bs i
abbrev z_MadeF_207 (a : KNb) : Prop := a.x.s.used = a.x.s.used
abbrev z_MadeF_208 (a : KNb) : Prop := a.x.s.mix = a.x.s.mix
abbrev z_MadeF_209 (a : KNb) : Prop := (0 : Int) <= a.x.s.used
abbrev z_MadeF_210 (a : KNb) : Stm := Stm.mk (z_MadeF_203 a) a.x.s.used a.x.s.mix
abbrev z_MadeF_211 (a : KNb) : Stm := nextS (z_MadeF_210 a) (40 : Int)
abbrev z_MadeF_212 (a : KNb) : List Int := (z_MadeF_211 a).bs
abbrev z_MadeF_213 (a : KNb) : Nat := (z_MadeF_212 a).length
abbrev z_MadeF_214 (a : KNb) (i : Nat) : Int := gD (z_MadeF_212 a) i
abbrev z_MadeF_215 (a : KNb) : List Int := rng (z_MadeF_213 a) λ (i : Nat) => z_MadeF_214 a i
abbrev z_MadeF_216 (a : KNb) : Nat := (z_MadeF_215 a).length
abbrev z_MadeF_217 (a : KNb) : Prop := z_MadeF_216 a = z_MadeF_213 a
abbrev z_MadeF_218 (a : KNb) : Prop := ∀ (i : Nat), i < z_MadeF_216 a -> gD (z_MadeF_215 a) i = z_MadeF_214 a i
abbrev z_MadeF_219 (a : KNb) : Int := (z_MadeF_211 a).used
abbrev z_MadeF_220 (a : KNb) : Prop := z_MadeF_219 a = z_MadeF_219 a
abbrev z_MadeF_221 (a : KNb) : Int := (z_MadeF_211 a).mix
abbrev z_MadeF_222 (a : KNb) : Prop := z_MadeF_221 a = z_MadeF_221 a
abbrev z_MadeF_223 (a : KNb) : Prop := (0 : Int) <= z_MadeF_219 a
abbrev z_MadeF_224 (a : KNb) (a1 : MkI) : Prop := z_MadeF_200 a /\ (↑a.i : Int) < (↑(mS a1).st.length : Int)
abbrev z_MadeF_225 (a : KNb) : Stm := Stm.mk (z_MadeF_215 a) (z_MadeF_219 a) (z_MadeF_221 a)
abbrev z_MadeF_226 (a : KNb) : Stm := nextS (z_MadeF_225 a) (40 : Int)
abbrev z_MadeF_227 (a : KNb) : List Int := (z_MadeF_226 a).bs
abbrev z_MadeF_228 (a : KNb) : Nat := (z_MadeF_227 a).length
abbrev z_MadeF_229 (a : KNb) (i : Nat) : Int := gD (z_MadeF_227 a) i
abbrev z_MadeF_230 (a : KNb) : List Int := rng (z_MadeF_228 a) λ (i : Nat) => z_MadeF_229 a i
abbrev z_MadeF_231 (a : KNb) : Nat := (z_MadeF_230 a).length
abbrev z_MadeF_232 (a : KNb) : Prop := z_MadeF_231 a = z_MadeF_228 a
abbrev z_MadeF_233 (a : KNb) : Prop := ∀ (i : Nat), i < z_MadeF_231 a -> gD (z_MadeF_230 a) i = z_MadeF_229 a i
abbrev z_MadeF_234 (a : KNb) : Int := (z_MadeF_226 a).used
abbrev z_MadeF_235 (a : KNb) : Prop := z_MadeF_234 a = z_MadeF_234 a
abbrev z_MadeF_236 (a : KNb) : Int := (z_MadeF_226 a).mix
abbrev z_MadeF_237 (a : KNb) : Prop := z_MadeF_236 a = z_MadeF_236 a
abbrev z_MadeF_238 (a : KNb) : Prop := (0 : Int) <= z_MadeF_234 a
abbrev z_MadeF_239 (a : KNb) : Stm := Stm.mk (z_MadeF_230 a) (z_MadeF_234 a) (z_MadeF_236 a)
abbrev z_MadeF_240 (a : KNb) : Stm := nextS (z_MadeF_239 a) (9 : Int)
abbrev z_MadeF_241 (a : KNb) : List Int := (z_MadeF_240 a).bs
abbrev z_MadeF_242 (a : KNb) : Nat := (z_MadeF_241 a).length
abbrev z_MadeF_243 (a : KNb) (i : Nat) : Int := gD (z_MadeF_241 a) i
abbrev z_MadeF_244 (a : KNb) : List Int := rng (z_MadeF_242 a) λ (i : Nat) => z_MadeF_243 a i
abbrev z_MadeF_245 (a : KNb) : Nat := (z_MadeF_244 a).length
abbrev z_MadeF_246 (a : KNb) : Prop := z_MadeF_245 a = z_MadeF_242 a
abbrev z_MadeF_247 (a : KNb) : Prop := ∀ (i : Nat), i < z_MadeF_245 a -> gD (z_MadeF_244 a) i = z_MadeF_243 a i
abbrev z_MadeF_248 (a : KNb) : Int := (z_MadeF_240 a).used
abbrev z_MadeF_249 (a : KNb) : Prop := z_MadeF_248 a = z_MadeF_248 a
abbrev z_MadeF_250 (a : KNb) : Int := (z_MadeF_240 a).mix
abbrev z_MadeF_251 (a : KNb) : Prop := z_MadeF_250 a = z_MadeF_250 a
abbrev z_MadeF_252 (a : KNb) : Prop := (0 : Int) <= z_MadeF_248 a
abbrev z_MadeF_253 : Prop := (5 : Nat) = (5 : Nat)
abbrev z_MadeF_254 : Prop := z_MadeF_81 /\ (z_MadeF_82 -> z_MadeF_253)
abbrev z_MadeF_255 (a : KN) (a1 : KNb) : Prop := (↑a.i : Int) = (↑a1.i : Int)
abbrev z_MadeF_256 (a : KNb) : Stm := Stm.mk (z_MadeF_244 a) (z_MadeF_248 a) (z_MadeF_250 a)
abbrev z_MadeF_257 (a : KNb) : Stm := nextS (z_MadeF_256 a) (9 : Int)
abbrev z_MadeF_258 (a : KNb) : List Int := (z_MadeF_257 a).bs
abbrev z_MadeF_259 (a : KN) (a1 : KNb) : Prop := a.x.s.bs.length = (z_MadeF_258 a1).length
abbrev z_MadeF_260 (a : KN) (a1 : KNb) : Prop := ∀ (i : Nat), z_MadeF_167 i a -> gD a.x.s.bs i = gD (z_MadeF_258 a1) i
abbrev z_MadeF_261 (a : KN) (a1 : KNb) : Prop := a.x.s.used = (z_MadeF_257 a1).used
abbrev z_MadeF_262 (a : KN) (a1 : KNb) : Prop := a.x.s.mix = (z_MadeF_257 a1).mix
abbrev z_MadeF_263 (a : KN) : Prop := a.x.ns.length = (1 : Nat)
abbrev z_MadeF_264 (a : MkI) (a1 : KNb) : Int := maxI (0 : Int) (IntKind.i64.wrap (gD (mS a).t a1.i - nextV (z_MadeF_210 a1) (40 : Int)))
abbrev z_MadeF_265 (a : MkI) (a1 : KNb) : Int := IntKind.i64.wrap (gD (mS a).t a1.i + nextV (z_MadeF_225 a1) (40 : Int))
abbrev z_MadeF_266 (a : MkI) (a1 : KNb) : Int := IntKind.i64.wrap (gD (mS a).st a1.i - nextV (z_MadeF_239 a1) (9 : Int))
abbrev z_MadeF_267 (a : MkI) (a1 : KNb) : Int := IntKind.i64.wrap (gD (mS a).st a1.i + nextV (z_MadeF_256 a1) (9 : Int))
abbrev z_MadeF_268 (a : KN) : Nat := a.i + (1 : Nat)
abbrev z_MadeF_269 (a : MkI) (a1 : KN) (a2 : KN) : Prop := z_MadeF_134 a /\ (a1.i < (mS a).ms.length /\ z_MadeF_196 a1 = z_MadeF_196 a2) /\ StmB ((12 : Int) + z_MadeF_177 a + z_MadeF_179 a1) a1.x.s /\ mkN a ((mS a).ms.length
 - z_MadeF_268 a1) (z_MadeF_268 a1) a1.x = mNs a /\ a1.x.ns.length <= z_MadeF_268 a1
abbrev z_MadeF_270 (a : KN) : Prop := (1 : Nat) <= a.x.ns.length
abbrev z_MadeF_271 (a : MkI) (a1 : KN) (a2 : KN) : Prop := z_MadeF_269 a a1 a2 /\ z_MadeF_270 a1
abbrev z_MadeF_272 (a : KN) (a1 : KNb) : Prop := a.x.s.bs.length = a1.x.s.bs.length
abbrev z_MadeF_273 (a : KN) (a1 : KNb) : Prop := ∀ (i : Nat), z_MadeF_167 i a -> gD a.x.s.bs i = gD a1.x.s.bs i
abbrev z_MadeF_274 (a : KN) (a1 : KNb) : Prop := a.x.s.used = a1.x.s.used
abbrev z_MadeF_275 (a : KN) (a1 : KNb) : Prop := a.x.s.mix = a1.x.s.mix
abbrev z_MadeF_276 (a : MkI) (a1 : KN) (a2 : KN) : Prop := z_MadeF_269 a a1 a2 /\ a1.x.ns = []
abbrev z_MadeF_277 (a : KN) : Int := IntKind.i64.wrap ((↑a.i : Int) + (1 : Int))
abbrev z_MadeF_278 (a : KN) (a1 : KN) : Prop := (↑a.i : Int) = z_MadeF_277 a1
abbrev z_MadeF_279 (a : KN) (a1 : KN) : Prop := a.x.s.bs.length = a1.x.s.bs.length
abbrev z_MadeF_280 (a : KN) (a1 : KN) : Prop := ∀ (i : Nat), z_MadeF_167 i a -> gD a.x.s.bs i = gD a1.x.s.bs i
abbrev z_MadeF_281 (a : KN) (a1 : KN) : Prop := a.x.s.used = a1.x.s.used
abbrev z_MadeF_282 (a : KN) (a1 : KN) : Prop := a.x.s.mix = a1.x.s.mix
abbrev z_MadeF_283 (a : KN) (a1 : KN) : Prop := z_MadeF_196 a < z_MadeF_196 a1
abbrev z_MadeF_284 (a : KN) (a1 : KN) : Prop := a.x.ns.length = a1.x.ns.length
abbrev z_MadeF_285 (a : MkI) (a1 : KN) : Prop := z_MadeF_180 a a1 /\ z_MadeF_270 a1
abbrev z_MadeF_286 (a : MkI) (a1 : KN) : Prop := ∀ (a_1 : KN), z_MadeF_271 a a_1 a1 -> ∃ (a_3 : KN), (z_MadeF_278 a_3 a_1 /\ z_MadeF_279 a_3 a_1 /\ z_MadeF_280 a_3 a_1 /\ z_MadeF_281 a_3 a_1 /\ z_MadeF_282 a_3 a_1 /\
 z_MadeF_35 /\ z_MadeF_35 /\ z_MadeF_35 /\ z_MadeF_35 /\ z_MadeF_35 /\ z_MadeF_36 /\ z_MadeF_37 /\ z_MadeF_36 /\ z_MadeF_37 /\ z_MadeF_36 /\ z_MadeF_37 /\ z_MadeF_36 /\ z_MadeF_37 /\ z_MadeF_36 /\ z_MadeF_37 /\ hLo a.s = hLo a.s /\ hHi
 a.s = hHi a.s /\ hBs a.s = hBs a.s /\ hSc a.s = hSc a.s /\ hOf a.s = hOf a.s /\ z_MadeF_168 a /\ z_MadeF_169 a /\ z_MadeF_36 /\ z_MadeF_284 a_3 a_1 /\ z_MadeF_170 a /\ z_MadeF_171 a /\ z_MadeF_172 a /\ z_MadeF_173 a /\ z_MadeF_174 a
 /\ z_MadeF_175 a /\ z_MadeF_284 a_3 a_1 /\ ∀ (i : Nat), i < a_3.x.ns.length -> (gD a_3.x.ns i).mi = (gD a_1.x.ns i).mi /\ (gD a_3.x.ns i).t.lo = (gD a_1.x.ns i).t.lo /\ (gD a_3.x.ns i).t.hi = (gD a_1.x.ns i).t.hi /\ (gD
 a_3.x.ns i).s.lo = (gD a_1.x.ns i).s.lo /\ (gD a_3.x.ns i).s.hi = (gD a_1.x.ns i).s.hi) /\ z_MadeF_285 a a_3 /\ z_MadeF_283 a_3 a1
abbrev z_MadeF_287 (a : MkI) (a1 : KN) : Prop := (mNs a).s.bs.length = a1.x.s.bs.length
abbrev z_MadeF_288 (a : MkI) (a1 : KN) : Prop := ∀ (i : Nat), i < (mNs a).s.bs.length -> gD (mNs a).s.bs i = gD a1.x.s.bs i
abbrev z_MadeF_289 (a : MkI) (a1 : KN) : Prop := (mNs a).s.used = a1.x.s.used
abbrev z_MadeF_290 (a : MkI) (a1 : KN) : Prop := (mNs a).s.mix = a1.x.s.mix
abbrev z_MadeF_291 (a : MkI) : Prop := z_MadeF_134 a /\ (mNs a).ns = []
abbrev z_MadeF_292 (a : KNb) (a1 : KN) : Prop := a.x.ns.length = a1.x.ns.length
abbrev z_MadeF_293 (a : MkI) (a1 : KNb) (a2 : KN) : Prop := z_MadeF_198 a a1 a2 /\ (1 : Nat) <= a1.x.ns.length
abbrev z_MadeF_294 (a : KNb) : Nat := a.x.ns.length + (1 : Nat)
abbrev z_MadeF_295 (a : KN) (a1 : KNb) : Prop := a.x.ns.length = z_MadeF_294 a1
abbrev z_MadeF_296 (i : Nat) (a : KNb) : Bool := decide (i < a.x.ns.length)
abbrev z_MadeF_297 (a : KN) (a1 : KNb) : Prop := a.x.ns.length = a1.x.ns.length
abbrev z_MadeF_298 (a : MkI) (a1 : KN) : Prop := (mNs a).ns.length = a1.x.ns.length
abbrev z_MadeF_299 (a : MkI) : Int := z_MadeF_178 a + (5 : Int) * a.m
abbrev z_MadeF_300 (a : MkI) : Prop := z_MadeF_134 a /\ StmB (z_MadeF_299 a) (mNs a).s /\ (1 : Nat) <= (mNs a).ns.length /\ (↑(mNs a).ns.length : Int) <= a.m
abbrev z_MadeF_301 (i : Nat) (a : MkI) : Prop := i < (mE a).s.bs.length
abbrev z_MadeF_302 (a : MkI) : Prop := (mdC a).ms.length = (mS a).ms.length
abbrev z_MadeF_303 (a : MkI) : Prop := ∀ (i : Nat), i < (mdC a).ms.length -> (gD (mdC a).ms i).pl = (gD (mS a).ms i).pl /\ (gD (mdC a).ms i).ht = (gD (mS a).ms i).ht
abbrev z_MadeF_304 (a : MkI) : Prop := (mdC a).ns.length = (0 : Nat)
abbrev z_MadeF_305 (a : MkI) : Prop := (mdT a).t.length = (mS a).t.length
abbrev z_MadeF_306 (a : MkI) : Prop := ∀ (i : Nat), i < (mdT a).t.length -> gD (mdT a).t i = gD (mS a).t i
abbrev z_MadeF_307 (a : MkI) : Prop := (mdT a).s.length = (mS a).st.length
abbrev z_MadeF_308 (a : MkI) : Prop := ∀ (i : Nat), i < (mdT a).s.length -> gD (mdT a).s i = gD (mS a).st i
abbrev z_MadeF_309 (a : MkI) : Prop := (mdT a).z.length = (mS a).z.length
abbrev z_MadeF_310 (a : MkI) : Prop := ∀ (i : Nat), i < (mdT a).z.length -> gD (mdT a).z i = gD (mS a).z i
abbrev z_MadeF_311 (a : KN) (a1 : MkI) : Prop := a.x.ns.length = (mNs a1).ns.length
abbrev z_MadeF_312 (a : MkI) (a1 : KN) : Prop := z_MadeF_134 a /\ a1.i < a1.x.ns.length /\ StmB (z_MadeF_299 a + a.m - (↑a1.i : Int)) a1.x.s /\ shK a1.i a1.x = mE a /\ (↑a1.x.ns.length : Int) <= a.m
abbrev z_MadeF_313 (a : KN) : Int := nextV (z_MadeF_188 a) (z_MadeF_277 a)
abbrev z_MadeF_314 (a : KN) : Prop := (0 : Int) <= z_MadeF_313 a /\ z_MadeF_313 a < (↑a.x.ns.length : Int)
abbrev z_MadeF_315 (a : KN) : Nat := (0 : Nat) + (z_MadeF_313 a).toNat
abbrev z_MadeF_316 (a : KN) : Prop := (0 : Int) <= (↑a.i : Int) /\ (↑a.i : Int) < (↑a.x.ns.length : Int)
abbrev z_MadeF_317 (a : KN) : Nat := (0 : Nat) + a.i
abbrev z_MadeF_318 (a : KN) : Prop := z_MadeF_317 a < a.x.ns.length
abbrev z_MadeF_319 (a : KN) : Stm := nextS (z_MadeF_188 a) (z_MadeF_277 a)
abbrev z_MadeF_320 (a : KN) : List Int := (z_MadeF_319 a).bs
abbrev z_MadeF_321 (i : Nat) (a : KN) : Bool := decide (i = z_MadeF_315 a)
abbrev z_MadeF_322 (a : KN) : Nt := gD a.x.ns (z_MadeF_317 a)
abbrev z_MadeF_323 (i : Nat) (a : KN) : Bool := decide (i = z_MadeF_317 a)
abbrev z_MadeF_324 (a : KN) : Nt := gD a.x.ns (z_MadeF_315 a)
abbrev z_MadeF_325 (a : KN) : Span := (z_MadeF_322 a).t
abbrev z_MadeF_326 (a : KN) : Span := (z_MadeF_324 a).t
abbrev z_MadeF_327 (a : KN) : Span := (z_MadeF_322 a).s
abbrev z_MadeF_328 (a : KN) : Span := (z_MadeF_324 a).s
abbrev z_MadeF_329 (a : KN) (j : Nat) : Nt := gD a.x.ns (z_MadeF_165 j)
abbrev z_MadeF_330 (a : KN) (j : Nat) : Span := (z_MadeF_329 a j).t
abbrev z_MadeF_331 (a : KN) (j : Nat) : Span := (z_MadeF_329 a j).s
theorem vc_MadeF (a : MkI) : (V_MadeF a) = (((z_MadeF_0 /\ z_MadeF_1 /\ z_MadeF_3 a = a.s.bs.length /\ (∀ (i : Nat), i < z_MadeF_3 a -> gD (z_MadeF_2 a) i = gD a.s.bs i) /\ a.s.used = a.s.used /\ a.s.mix = a.s.mix /\ (0 : Int)
 <= a.s.used /\ (-50 : Int) = Int.negSucc (49 : Nat) /\ (400 : Int) = Int.ofNat (400 : Nat) /\ z_MadeF_10 a = z_MadeF_7 a /\ (∀ (i : Nat), i < z_MadeF_10 a -> gD (z_MadeF_9 a) i = z_MadeF_8 a i) /\ z_MadeF_11 a = z_MadeF_11 a /\
 z_MadeF_12 a = z_MadeF_12 a /\ (0 : Int) <= z_MadeF_11 a /\ z_MadeF_1 /\ z_MadeF_19 a = z_MadeF_16 a /\ (∀ (i : Nat), i < z_MadeF_19 a -> gD (z_MadeF_18 a) i = z_MadeF_17 a i) /\ z_MadeF_20 a = z_MadeF_20 a /\ z_MadeF_21 a =
 z_MadeF_21 a /\ (0 : Int) <= z_MadeF_20 a /\ z_MadeF_22 /\ z_MadeF_29 a = z_MadeF_26 a /\ (∀ (i : Nat), i < z_MadeF_29 a -> gD (z_MadeF_28 a) i = z_MadeF_27 a i) /\ z_MadeF_30 a = z_MadeF_30 a /\ z_MadeF_31 a = z_MadeF_31 a /\
 (z_MadeF_30 a - (0 : Int)).NonNeg) /\ ∃ (a_1 : One), (a.m = a.m /\ false = false /\ (gS4 a.s).bs.length = (z_MadeF_34 a).length /\ (∀ (i : Nat), i < (gS4 a.s).bs.length -> gD (gS4 a.s).bs i = gD (z_MadeF_34 a) i) /\ (gS4
 a.s).used = (z_MadeF_33 a).used /\ (gS4 a.s).mix = (z_MadeF_33 a).mix /\ z_MadeF_35 /\ z_MadeF_35 /\ z_MadeF_35 /\ z_MadeF_35 /\ z_MadeF_35 /\ z_MadeF_36 /\ z_MadeF_37 /\ z_MadeF_36 /\ z_MadeF_37 /\ z_MadeF_36 /\ z_MadeF_37 /\
 z_MadeF_36 /\ z_MadeF_37 /\ z_MadeF_36 /\ z_MadeF_37 /\ hLo a.s = witV (z_MadeF_4 a) (1 : Int) (12 : Int) /\ z_MadeF_35 /\ hBs a.s = witV (z_MadeF_13 a) (-50 : Int) (400 : Int) /\ hSc a.s = nextV (z_MadeF_23 a) (12 : Int) /\ hOf
 a.s = nextV (z_MadeF_32 a) (9 : Int) /\ z_MadeF_38) /\ StmB (4 : Int) (gS4 a.s)) /\ ∀ (a_1 : One), StmB (4 : Int) (gS4 a.s) -> (((6 : Int) = Int.ofNat (6 : Nat) /\ z_MadeF_40 a = (gS4 a.s).bs.length /\ (∀ (i : Nat), i <
 z_MadeF_40 a -> gD (z_MadeF_39 a) i = gD (gS4 a.s).bs i) /\ (gS4 a.s).used = (gS4 a.s).used /\ (gS4 a.s).mix = (gS4 a.s).mix /\ ((gS4 a.s).used - (0 : Int)).NonNeg) /\ ∃ (a_3 : One), (a.m = a.m /\ false = false /\ (gS5
 a.s).bs.length = (z_MadeF_43 a).length /\ (∀ (i : Nat), i < (gS5 a.s).bs.length -> gD (gS5 a.s).bs i = gD (z_MadeF_43 a) i) /\ (gS5 a.s).used = (z_MadeF_42 a).used /\ (gS5 a.s).mix = (z_MadeF_42 a).mix /\ z_MadeF_35 /\
 z_MadeF_35 /\ z_MadeF_35 /\ z_MadeF_35 /\ z_MadeF_35 /\ z_MadeF_36 /\ z_MadeF_37 /\ z_MadeF_36 /\ z_MadeF_37 /\ z_MadeF_36 /\ z_MadeF_37 /\ z_MadeF_36 /\ z_MadeF_37 /\ z_MadeF_36 /\ z_MadeF_37 /\ hLo a.s = hLo a.s /\ hHi a.s =
 IntKind.i64.wrap (hLo a.s + nextV (z_MadeF_41 a) (6 : Int)) /\ hBs a.s = hBs a.s /\ hSc a.s = hSc a.s /\ hOf a.s = hOf a.s /\ z_MadeF_38) /\ StmB (5 : Int) (gS5 a.s)) /\ ∀ (a_3 : One), StmB (5 : Int) (gS5 a.s) -> (((300 : Int)
 = Int.ofNat (300 : Nat) /\ z_MadeF_45 a = (gS5 a.s).bs.length /\ (∀ (i : Nat), i < z_MadeF_45 a -> gD (z_MadeF_44 a) i = gD (gS5 a.s).bs i) /\ (gS5 a.s).used = (gS5 a.s).used /\ (gS5 a.s).mix = (gS5 a.s).mix /\ ((gS5 a.s).used
 - (0 : Int)).NonNeg) /\ ∃ (a_5 : One), (a.m = a.m /\ false = false /\ z_MadeF_35 /\ hTm a.s = nextV (z_MadeF_46 a) (300 : Int) /\ (gS6 a.s).bs.length = (z_MadeF_48 a).length /\ (∀ (i : Nat), i < (gS6 a.s).bs.length -> gD (gS6
 a.s).bs i = gD (z_MadeF_48 a) i) /\ (gS6 a.s).used = (z_MadeF_47 a).used /\ (gS6 a.s).mix = (z_MadeF_47 a).mix /\ z_MadeF_49 a) /\ StmB (6 : Int) (gS6 a.s)) /\ ∀ (a_5 : One), StmB (6 : Int) (gS6 a.s) -> ((z_MadeF_0 /\ a.m = a.m
 /\ z_MadeF_51 a = (gS6 a.s).bs.length /\ (∀ (i : Nat), i < z_MadeF_51 a -> gD (z_MadeF_50 a) i = gD (gS6 a.s).bs i) /\ (gS6 a.s).used = (gS6 a.s).used /\ (gS6 a.s).mix = (gS6 a.s).mix /\ ((gS6 a.s).used - (0 : Int)).NonNeg) /\
 (∃ (a_7 : KS), (false = false /\ a_7.x.pl = (0 : Int) /\ a_7.x.tm = hTm a.s /\ (↑a_7.k : Int) = witV (z_MadeF_52 a) (1 : Int) a.m /\ a_7.x.s.bs.length = (z_MadeF_54 a).length /\ (∀ (i : Nat), z_MadeF_55 i a_7 -> gD a_7.x.s.bs
 i = gD (z_MadeF_54 a) i) /\ a_7.x.s.used = (z_MadeF_53 a).used /\ a_7.x.s.mix = (z_MadeF_53 a).mix /\ z_MadeF_49 a) /\ z_MadeF_65 a a_7) /\ (∀ (a_7 : KS), z_MadeF_65 a a_7 -> bif z_MadeF_66 a_7 then (∃ (a_9 : KS), (false =
 false /\ a_9.x.pl = a_7.x.pl /\ a_9.x.tm = a_7.x.tm /\ z_MadeF_67 a_9 a_7 /\ z_MadeF_68 a_9 a_7 /\ z_MadeF_69 a_9 a_7 /\ z_MadeF_70 a_9 a_7 /\ z_MadeF_71 a_9 a_7 /\ z_MadeF_49 a) /\ z_MadeF_75 a a_9) /\ ∀ (a_9 : KS), z_MadeF_75 a
 a_9 -> z_MadeF_79 a_9 /\ (((True /\ (z_MadeF_80 -> (0 : Nat) = (2 : Nat))) /\ z_MadeF_84 /\ z_MadeF_85 /\ z_MadeF_86 /\ (16 : Nat) <= (140737488355328 : Nat)) /\ z_MadeF_89 /\ z_MadeF_94 a a_9 /\ z_MadeF_96 a a_9 /\ z_MadeF_103 a_9 /\
 z_MadeF_104 a_9 /\ z_MadeF_106 a_9 /\ z_MadeF_108 a_9 /\ z_MadeF_109 a_9 /\ z_MadeF_89) /\ ∃ (a_11 : KS), (false = false /\ a_11.x.pl = a_9.x.pl /\ a_11.x.tm = a_9.x.tm /\ z_MadeF_110 a_11 a_9 /\ z_MadeF_114 a_11 a_9 a /\
 z_MadeF_115 a_11 a_9 a /\ z_MadeF_116 a_11 a_9 a /\ z_MadeF_117 a_11 a_9 a /\ z_MadeF_35 /\ z_MadeF_35 /\ z_MadeF_35 /\ z_MadeF_35 /\ z_MadeF_35 /\ z_MadeF_36 /\ z_MadeF_37 /\ z_MadeF_36 /\ z_MadeF_37 /\ z_MadeF_36 /\ z_MadeF_37 /\
 z_MadeF_36 /\ z_MadeF_37 /\ z_MadeF_36 /\ z_MadeF_37 /\ hLo a.s = hLo a.s /\ hHi a.s = hHi a.s /\ hBs a.s = hBs a.s /\ hSc a.s = hSc a.s /\ hOf a.s = hOf a.s /\ z_MadeF_36 /\ z_MadeF_118 a_11 /\ z_MadeF_36 /\ z_MadeF_37 /\ z_MadeF_36
 /\ z_MadeF_119 a_11 /\ z_MadeF_36 /\ z_MadeF_120 a_11 /\ z_MadeF_36 /\ z_MadeF_37 /\ z_MadeF_118 a_11 /\ (∀ (i : Nat), i < a_11.x.ms.length -> (gD a_11.x.ms i).pl = a_9.x.pl /\ (gD a_11.x.ms i).ht = z_MadeF_91 a_9) /\ z_MadeF_119
 a_11 /\ (∀ (i : Nat), i < a_11.x.t.length -> gD a_11.x.t i = a_9.x.tm) /\ z_MadeF_120 a_11 /\ ∀ (i : Nat), i < a_11.x.st.length -> gD a_11.x.st i = z_MadeF_121 a_9 a) /\ z_MadeF_123 a a_11 /\ z_MadeF_124 a_11 < (100 : Nat) else
 ∃ (a_9 : One), (z_MadeF_125 a a_7 /\ z_MadeF_126 a a_7 /\ z_MadeF_127 a a_7 /\ z_MadeF_128 a a_7 /\ z_MadeF_35 /\ z_MadeF_35 /\ z_MadeF_35 /\ z_MadeF_35 /\ z_MadeF_35 /\ z_MadeF_36 /\ z_MadeF_37 /\ z_MadeF_36 /\ z_MadeF_37 /\
 z_MadeF_36 /\ z_MadeF_37 /\ z_MadeF_36 /\ z_MadeF_37 /\ z_MadeF_36 /\ z_MadeF_37 /\ hLo a.s = hLo a.s /\ hHi a.s = hHi a.s /\ hBs a.s = hBs a.s /\ hSc a.s = hSc a.s /\ hOf a.s = hOf a.s /\ z_MadeF_129 a /\ z_MadeF_129 a /\ z_MadeF_36
 /\ z_MadeF_37 /\ z_MadeF_130 a /\ z_MadeF_130 a /\ z_MadeF_131 a /\ z_MadeF_131 a /\ z_MadeF_133 a) /\ z_MadeF_134 a) /\ ∀ (a_7 : KS), z_MadeF_123 a a_7 -> bif z_MadeF_66 a_7 then (bif decide ((↑a_7.x.ms.length : Int) > (0 :
 Int)) then (z_MadeF_0 /\ (30 : Int) = Int.ofNat (30 : Nat) /\ z_MadeF_78 a_7) /\ ((z_MadeF_136 a a_7 = z_MadeF_136 a a_7 /\ z_MadeF_137 a a_7 = z_MadeF_137 a a_7 /\ z_MadeF_143 a_7 = z_MadeF_140 a_7 /\ (∀ (i : Nat), i <
 z_MadeF_143 a_7 -> gD (z_MadeF_142 a_7) i = z_MadeF_141 a_7 i) /\ z_MadeF_144 a_7 = z_MadeF_144 a_7 /\ z_MadeF_145 a_7 = z_MadeF_145 a_7 /\ (z_MadeF_144 a_7 - (0 : Int)).NonNeg) /\ ∃ (a_9 : KS), (false = false /\ a_9.x.pl =
 IntKind.i64.wrap (a_7.x.pl + z_MadeF_135 a_7) /\ a_9.x.tm = IntKind.i64.wrap (a_7.x.tm + witV (z_MadeF_146 a_7) (z_MadeF_136 a a_7) (z_MadeF_137 a a_7)) /\ z_MadeF_67 a_9 a_7 /\ a_9.x.s.bs.length = (z_MadeF_148 a_7
 a).length /\ (∀ (i : Nat), z_MadeF_55 i a_9 -> gD a_9.x.s.bs i = gD (z_MadeF_148 a_7 a) i) /\ a_9.x.s.used = (z_MadeF_147 a_7 a).used /\ a_9.x.s.mix = (z_MadeF_147 a_7 a).mix /\ z_MadeF_152 a a_9 a_7) /\ z_MadeF_154 a a_9 a_7)
 /\ ∀ (a_9 : KS), z_MadeF_154 a a_9 a_7 -> false = false /\ false = false /\ false = false /\ (false = true -> false = true) /\ ∃ (a_11 : KS), z_MadeF_155 a_11 a_9 a /\ z_MadeF_156 a a_11 a_7 else ∃ (a_9 : KS), z_MadeF_155 a_9
 a_7 a /\ z_MadeF_156 a a_9 a_7) /\ ∀ (a_9 : KS), z_MadeF_156 a a_9 a_7 -> z_MadeF_79 a_9 /\ (((a_9.x.ms.length = a_9.x.ms.length /\ ((0 : Nat) < a_9.x.ms.length -> z_MadeF_83)) /\ z_MadeF_84 /\ z_MadeF_157 /\ z_MadeF_158 a_9 <=
 (9223372036854775807 : Nat) /\ z_MadeF_158 a_9 * (16 : Nat) <= (140737488355328 : Nat)) /\ ((a_9.x.t.length = a_9.x.t.length /\ ((0 : Nat) < a_9.x.t.length -> z_MadeF_87)) /\ z_MadeF_88 /\ z_MadeF_157 /\ z_MadeF_159 a_9 <=
 (9223372036854775807 : Nat) /\ z_MadeF_159 a_9 * (8 : Nat) <= (140737488355328 : Nat)) /\ z_MadeF_94 a a_9 /\ z_MadeF_96 a a_9 /\ z_MadeF_103 a_9 /\ z_MadeF_104 a_9 /\ z_MadeF_106 a_9 /\ z_MadeF_108 a_9 /\ z_MadeF_109 a_9 /\
 (a_9.x.st.length = a_9.x.st.length /\ ((0 : Nat) < a_9.x.st.length -> z_MadeF_87)) /\ z_MadeF_88 /\ z_MadeF_157 /\ z_MadeF_160 a_9 <= (9223372036854775807 : Nat) /\ z_MadeF_160 a_9 * (8 : Nat) <= (140737488355328 : Nat)) /\ ∃
 (a_11 : KS), (false = false /\ a_11.x.pl = a_9.x.pl /\ a_11.x.tm = a_9.x.tm /\ z_MadeF_110 a_11 a_9 /\ z_MadeF_114 a_11 a_9 a /\ z_MadeF_115 a_11 a_9 a /\ z_MadeF_116 a_11 a_9 a /\ z_MadeF_117 a_11 a_9 a /\ z_MadeF_35 /\
 z_MadeF_35 /\ z_MadeF_35 /\ z_MadeF_35 /\ z_MadeF_35 /\ z_MadeF_36 /\ z_MadeF_37 /\ z_MadeF_36 /\ z_MadeF_37 /\ z_MadeF_36 /\ z_MadeF_37 /\ z_MadeF_36 /\ z_MadeF_37 /\ z_MadeF_36 /\ z_MadeF_37 /\ hLo a.s = hLo a.s /\ hHi a.s = hHi a.s
 /\ hBs a.s = hBs a.s /\ hSc a.s = hSc a.s /\ hOf a.s = hOf a.s /\ z_MadeF_36 /\ z_MadeF_161 a_11 a_9 /\ z_MadeF_36 /\ z_MadeF_37 /\ z_MadeF_36 /\ z_MadeF_162 a_11 a_9 /\ z_MadeF_36 /\ z_MadeF_163 a_11 a_9 /\ z_MadeF_36 /\ z_MadeF_37
 /\ z_MadeF_161 a_11 a_9 /\ (∀ (i : Nat), i < a_11.x.ms.length -> ((gD a_11.x.ms i).pl = bif z_MadeF_164 i a_9 then (gD a_9.x.ms i).pl else a_9.x.pl) /\ (gD a_11.x.ms i).ht = bif z_MadeF_164 i a_9 then (gD a_9.x.ms i).ht else
 z_MadeF_91 a_9) /\ z_MadeF_162 a_11 a_9 /\ (∀ (i : Nat), i < a_11.x.t.length -> gD a_11.x.t i = bif decide (i < a_9.x.t.length) then gD a_9.x.t i else a_9.x.tm) /\ z_MadeF_163 a_11 a_9 /\ ∀ (i : Nat), i < a_11.x.st.length ->
 gD a_11.x.st i = bif decide (i < a_9.x.st.length) then gD a_9.x.st i else z_MadeF_121 a_9 a) /\ z_MadeF_123 a a_11 /\ z_MadeF_124 a_11 < z_MadeF_124 a_7 else ∃ (a_9 : One), (z_MadeF_125 a a_7 /\ z_MadeF_126 a a_7 /\
 z_MadeF_127 a a_7 /\ z_MadeF_128 a a_7 /\ z_MadeF_35 /\ z_MadeF_35 /\ z_MadeF_35 /\ z_MadeF_35 /\ z_MadeF_35 /\ z_MadeF_36 /\ z_MadeF_37 /\ z_MadeF_36 /\ z_MadeF_37 /\ z_MadeF_36 /\ z_MadeF_37 /\ z_MadeF_36 /\ z_MadeF_37 /\ z_MadeF_36
 /\ z_MadeF_37 /\ hLo a.s = hLo a.s /\ hHi a.s = hHi a.s /\ hBs a.s = hBs a.s /\ hSc a.s = hSc a.s /\ hOf a.s = hOf a.s /\ (mS a).ms.length = a_7.x.ms.length /\ (0 : Nat) + a_7.x.ms.length <= a_7.x.ms.length /\ (∀ (j : Nat), j <
 (mS a).ms.length -> (gD (mS a).ms j).pl = (z_MadeF_166 a_7 j).pl /\ (gD (mS a).ms j).ht = (z_MadeF_166 a_7 j).ht) /\ z_MadeF_36 /\ z_MadeF_37 /\ (mS a).t.length = a_7.x.t.length /\ (0 : Nat) + a_7.x.t.length <= a_7.x.t.length /\
 (∀ (j : Nat), j < (mS a).t.length -> gD (mS a).t j = gD a_7.x.t (z_MadeF_165 j)) /\ (mS a).st.length = a_7.x.st.length /\ (0 : Nat) + a_7.x.st.length <= a_7.x.st.length /\ (∀ (j : Nat), j < (mS a).st.length -> gD (mS a).st j =
 gD a_7.x.st (z_MadeF_165 j)) /\ z_MadeF_133 a) /\ z_MadeF_134 a) /\ ∀ (a_7 : One), z_MadeF_134 a -> ((∃ (a_9 : KN), ((↑a_9.i : Int) = (0 : Int) /\ a_9.x.s.bs.length = (mS a).s.bs.length /\ (∀ (i : Nat), z_MadeF_167 i a_9 -> gD
 a_9.x.s.bs i = gD (mS a).s.bs i) /\ a_9.x.s.used = (mS a).s.used /\ a_9.x.s.mix = (mS a).s.mix /\ z_MadeF_176 a) /\ z_MadeF_181 a a_9) /\ (∀ (a_9 : KN), z_MadeF_181 a a_9 -> bif bif z_MadeF_182 a_9 a then decide ((↑(0 : Nat) :
 Int) < (20 : Int)) else false then ((z_MadeF_186 a_9 /\ ∃ (a_11 : KNb), (z_MadeF_187 a_11 a_9 /\ z_MadeF_189 a_11 a_9 /\ z_MadeF_192 a_11 a_9 /\ z_MadeF_193 a_11 a_9 /\ z_MadeF_194 a_11 a_9 /\ z_MadeF_195 a_11 a_9 /\
 z_MadeF_176 a) /\ z_MadeF_199 a a_11 a_9) /\ ∀ (a_11 : KNb), z_MadeF_199 a a_11 a_9 -> bif a_11.b then (z_MadeF_201 a_11 a /\ z_MadeF_202 /\ z_MadeF_205 a_11 /\ z_MadeF_206 a_11 /\ z_MadeF_207 a_11 /\ z_MadeF_208 a_11 /\
 z_MadeF_209 a_11 /\ z_MadeF_201 a_11 a /\ z_MadeF_202 /\ z_MadeF_217 a_11 /\ z_MadeF_218 a_11 /\ z_MadeF_220 a_11 /\ z_MadeF_222 a_11 /\ z_MadeF_223 a_11 /\ z_MadeF_224 a_11 a /\ z_MadeF_22 /\ z_MadeF_232 a_11 /\ z_MadeF_233 a_11 /\
 z_MadeF_235 a_11 /\ z_MadeF_237 a_11 /\ z_MadeF_238 a_11 /\ z_MadeF_224 a_11 a /\ z_MadeF_22 /\ z_MadeF_246 a_11 /\ z_MadeF_247 a_11 /\ z_MadeF_249 a_11 /\ z_MadeF_251 a_11 /\ z_MadeF_252 a_11 /\ (True /\ (z_MadeF_80 -> (0 : Nat) =
 (5 : Nat))) /\ z_MadeF_254 /\ z_MadeF_85 /\ z_MadeF_86 /\ (40 : Nat) <= (140737488355328 : Nat)) /\ ∃ (a_13 : KN), (z_MadeF_255 a_13 a_11 /\ z_MadeF_259 a_13 a_11 /\ z_MadeF_260 a_13 a_11 /\ z_MadeF_261 a_13 a_11 /\ z_MadeF_262
 a_13 a_11 /\ z_MadeF_35 /\ z_MadeF_35 /\ z_MadeF_35 /\ z_MadeF_35 /\ z_MadeF_35 /\ z_MadeF_36 /\ z_MadeF_37 /\ z_MadeF_36 /\ z_MadeF_37 /\ z_MadeF_36 /\ z_MadeF_37 /\ z_MadeF_36 /\ z_MadeF_37 /\ z_MadeF_36 /\ z_MadeF_37 /\ hLo a.s = hLo
 a.s /\ hHi a.s = hHi a.s /\ hBs a.s = hBs a.s /\ hSc a.s = hSc a.s /\ hOf a.s = hOf a.s /\ z_MadeF_168 a /\ z_MadeF_169 a /\ z_MadeF_36 /\ z_MadeF_263 a_13 /\ z_MadeF_170 a /\ z_MadeF_171 a /\ z_MadeF_172 a /\ z_MadeF_173 a /\
 z_MadeF_174 a /\ z_MadeF_175 a /\ z_MadeF_263 a_13 /\ ∀ (i : Nat), i < a_13.x.ns.length -> (gD a_13.x.ns i).mi = (↑a_11.i : Int) /\ (gD a_13.x.ns i).t.lo = z_MadeF_264 a a_11 /\ (gD a_13.x.ns i).t.hi = z_MadeF_265 a a_11 /\ (gD
 a_13.x.ns i).s.lo = z_MadeF_266 a a_11 /\ (gD a_13.x.ns i).s.hi = z_MadeF_267 a a_11) /\ z_MadeF_271 a a_13 a_9 else ∃ (a_13 : KN), (z_MadeF_255 a_13 a_11 /\ z_MadeF_272 a_13 a_11 /\ z_MadeF_273 a_13 a_11 /\ z_MadeF_274 a_13
 a_11 /\ z_MadeF_275 a_13 a_11 /\ z_MadeF_176 a) /\ z_MadeF_276 a a_13 a_9) /\ (∀ (a_11 : KN), z_MadeF_276 a a_11 a_9 -> ∃ (a_13 : KN), (z_MadeF_278 a_13 a_11 /\ z_MadeF_279 a_13 a_11 /\ z_MadeF_280 a_13 a_11 /\ z_MadeF_281 a_13
 a_11 /\ z_MadeF_282 a_13 a_11 /\ z_MadeF_176 a) /\ z_MadeF_181 a a_13 /\ z_MadeF_283 a_13 a_9) /\ z_MadeF_286 a a_9 else ∃ (a_11 : One), (z_MadeF_287 a a_9 /\ z_MadeF_288 a a_9 /\ z_MadeF_289 a a_9 /\ z_MadeF_290 a a_9 /\
 z_MadeF_176 a) /\ z_MadeF_291 a) /\ ∀ (a_9 : KN), z_MadeF_285 a a_9 -> bif bif z_MadeF_182 a_9 a then decide ((↑a_9.x.ns.length : Int) < (20 : Int)) else false then ((z_MadeF_186 a_9 /\ ∃ (a_11 : KNb), (z_MadeF_187 a_11 a_9
 /\ z_MadeF_189 a_11 a_9 /\ z_MadeF_192 a_11 a_9 /\ z_MadeF_193 a_11 a_9 /\ z_MadeF_194 a_11 a_9 /\ z_MadeF_195 a_11 a_9 /\ z_MadeF_35 /\ z_MadeF_35 /\ z_MadeF_35 /\ z_MadeF_35 /\ z_MadeF_35 /\ z_MadeF_36 /\ z_MadeF_37 /\ z_MadeF_36 /\
 z_MadeF_37 /\ z_MadeF_36 /\ z_MadeF_37 /\ z_MadeF_36 /\ z_MadeF_37 /\ z_MadeF_36 /\ z_MadeF_37 /\ hLo a.s = hLo a.s /\ hHi a.s = hHi a.s /\ hBs a.s = hBs a.s /\ hSc a.s = hSc a.s /\ hOf a.s = hOf a.s /\ z_MadeF_168 a /\ z_MadeF_169 a
 /\ z_MadeF_36 /\ z_MadeF_292 a_11 a_9 /\ z_MadeF_170 a /\ z_MadeF_171 a /\ z_MadeF_172 a /\ z_MadeF_173 a /\ z_MadeF_174 a /\ z_MadeF_175 a /\ z_MadeF_292 a_11 a_9 /\ ∀ (i : Nat), i < a_11.x.ns.length -> (gD a_11.x.ns i).mi = (gD
 a_9.x.ns i).mi /\ (gD a_11.x.ns i).t.lo = (gD a_9.x.ns i).t.lo /\ (gD a_11.x.ns i).t.hi = (gD a_9.x.ns i).t.hi /\ (gD a_11.x.ns i).s.lo = (gD a_9.x.ns i).s.lo /\ (gD a_11.x.ns i).s.hi = (gD a_9.x.ns i).s.hi) /\ z_MadeF_293 a
 a_11 a_9) /\ ∀ (a_11 : KNb), z_MadeF_293 a a_11 a_9 -> bif a_11.b then (z_MadeF_201 a_11 a /\ z_MadeF_202 /\ z_MadeF_205 a_11 /\ z_MadeF_206 a_11 /\ z_MadeF_207 a_11 /\ z_MadeF_208 a_11 /\ z_MadeF_209 a_11 /\ z_MadeF_201 a_11 a /\
 z_MadeF_202 /\ z_MadeF_217 a_11 /\ z_MadeF_218 a_11 /\ z_MadeF_220 a_11 /\ z_MadeF_222 a_11 /\ z_MadeF_223 a_11 /\ z_MadeF_224 a_11 a /\ z_MadeF_22 /\ z_MadeF_232 a_11 /\ z_MadeF_233 a_11 /\ z_MadeF_235 a_11 /\ z_MadeF_237 a_11 /\
 z_MadeF_238 a_11 /\ z_MadeF_224 a_11 a /\ z_MadeF_22 /\ z_MadeF_246 a_11 /\ z_MadeF_247 a_11 /\ z_MadeF_249 a_11 /\ z_MadeF_251 a_11 /\ z_MadeF_252 a_11 /\ (a_11.x.ns.length = a_11.x.ns.length /\ ((0 : Nat) < a_11.x.ns.length ->
 z_MadeF_253)) /\ z_MadeF_254 /\ z_MadeF_157 /\ z_MadeF_294 a_11 <= (9223372036854775807 : Nat) /\ z_MadeF_294 a_11 * (40 : Nat) <= (140737488355328 : Nat)) /\ ∃ (a_13 : KN), (z_MadeF_255 a_13 a_11 /\ z_MadeF_259 a_13 a_11 /\
 z_MadeF_260 a_13 a_11 /\ z_MadeF_261 a_13 a_11 /\ z_MadeF_262 a_13 a_11 /\ z_MadeF_35 /\ z_MadeF_35 /\ z_MadeF_35 /\ z_MadeF_35 /\ z_MadeF_35 /\ z_MadeF_36 /\ z_MadeF_37 /\ z_MadeF_36 /\ z_MadeF_37 /\ z_MadeF_36 /\ z_MadeF_37 /\
 z_MadeF_36 /\ z_MadeF_37 /\ z_MadeF_36 /\ z_MadeF_37 /\ hLo a.s = hLo a.s /\ hHi a.s = hHi a.s /\ hBs a.s = hBs a.s /\ hSc a.s = hSc a.s /\ hOf a.s = hOf a.s /\ z_MadeF_168 a /\ z_MadeF_169 a /\ z_MadeF_36 /\ z_MadeF_295 a_13 a_11 /\
 z_MadeF_170 a /\ z_MadeF_171 a /\ z_MadeF_172 a /\ z_MadeF_173 a /\ z_MadeF_174 a /\ z_MadeF_175 a /\ z_MadeF_295 a_13 a_11 /\ ∀ (i : Nat), i < a_13.x.ns.length -> ((gD a_13.x.ns i).mi = bif z_MadeF_296 i a_11 then (gD a_11.x.ns
 i).mi else (↑a_11.i : Int)) /\ ((gD a_13.x.ns i).t.lo = bif z_MadeF_296 i a_11 then (gD a_11.x.ns i).t.lo else z_MadeF_264 a a_11) /\ ((gD a_13.x.ns i).t.hi = bif z_MadeF_296 i a_11 then (gD a_11.x.ns i).t.hi else
 z_MadeF_265 a a_11) /\ ((gD a_13.x.ns i).s.lo = bif z_MadeF_296 i a_11 then (gD a_11.x.ns i).s.lo else z_MadeF_266 a a_11) /\ (gD a_13.x.ns i).s.hi = bif z_MadeF_296 i a_11 then (gD a_11.x.ns i).s.hi else z_MadeF_267 a
 a_11) /\ z_MadeF_271 a a_13 a_9 else ∃ (a_13 : KN), (z_MadeF_255 a_13 a_11 /\ z_MadeF_272 a_13 a_11 /\ z_MadeF_273 a_13 a_11 /\ z_MadeF_274 a_13 a_11 /\ z_MadeF_275 a_13 a_11 /\ z_MadeF_35 /\ z_MadeF_35 /\ z_MadeF_35 /\
 z_MadeF_35 /\ z_MadeF_35 /\ z_MadeF_36 /\ z_MadeF_37 /\ z_MadeF_36 /\ z_MadeF_37 /\ z_MadeF_36 /\ z_MadeF_37 /\ z_MadeF_36 /\ z_MadeF_37 /\ z_MadeF_36 /\ z_MadeF_37 /\ hLo a.s = hLo a.s /\ hHi a.s = hHi a.s /\ hBs a.s = hBs a.s /\ hSc
 a.s = hSc a.s /\ hOf a.s = hOf a.s /\ z_MadeF_168 a /\ z_MadeF_169 a /\ z_MadeF_36 /\ z_MadeF_297 a_13 a_11 /\ z_MadeF_170 a /\ z_MadeF_171 a /\ z_MadeF_172 a /\ z_MadeF_173 a /\ z_MadeF_174 a /\ z_MadeF_175 a /\ z_MadeF_297 a_13
 a_11 /\ ∀ (i : Nat), i < a_13.x.ns.length -> (gD a_13.x.ns i).mi = (gD a_11.x.ns i).mi /\ (gD a_13.x.ns i).t.lo = (gD a_11.x.ns i).t.lo /\ (gD a_13.x.ns i).t.hi = (gD a_11.x.ns i).t.hi /\ (gD a_13.x.ns i).s.lo = (gD a_11.x.ns
 i).s.lo /\ (gD a_13.x.ns i).s.hi = (gD a_11.x.ns i).s.hi) /\ z_MadeF_271 a a_13 a_9) /\ z_MadeF_286 a a_9 /\ z_MadeF_286 a a_9 else ∃ (a_11 : One), (z_MadeF_287 a a_9 /\ z_MadeF_288 a a_9 /\ z_MadeF_289 a a_9 /\ z_MadeF_290 a
 a_9 /\ z_MadeF_35 /\ z_MadeF_35 /\ z_MadeF_35 /\ z_MadeF_35 /\ z_MadeF_35 /\ z_MadeF_36 /\ z_MadeF_37 /\ z_MadeF_36 /\ z_MadeF_37 /\ z_MadeF_36 /\ z_MadeF_37 /\ z_MadeF_36 /\ z_MadeF_37 /\ z_MadeF_36 /\ z_MadeF_37 /\ hLo a.s = hLo a.s /\
 hHi a.s = hHi a.s /\ hBs a.s = hBs a.s /\ hSc a.s = hSc a.s /\ hOf a.s = hOf a.s /\ z_MadeF_168 a /\ z_MadeF_169 a /\ z_MadeF_36 /\ z_MadeF_298 a a_9 /\ z_MadeF_170 a /\ z_MadeF_171 a /\ z_MadeF_172 a /\ z_MadeF_173 a /\ z_MadeF_174
 a /\ z_MadeF_175 a /\ z_MadeF_298 a a_9 /\ ∀ (i : Nat), i < (mNs a).ns.length -> (gD (mNs a).ns i).mi = (gD a_9.x.ns i).mi /\ (gD (mNs a).ns i).t.lo = (gD a_9.x.ns i).t.lo /\ (gD (mNs a).ns i).t.hi = (gD a_9.x.ns i).t.hi /\ (gD
 (mNs a).ns i).s.lo = (gD a_9.x.ns i).s.lo /\ (gD (mNs a).ns i).s.hi = (gD a_9.x.ns i).s.hi) /\ z_MadeF_300 a) /\ (∀ (a_9 : One), z_MadeF_291 a -> (∃ (a_11 : One), (Int.negSucc (0 : Nat) = Int.negSucc (0 : Nat) /\ (mE
 a).s.bs.length = (mNs a).s.bs.length /\ (∀ (i : Nat), z_MadeF_301 i a -> gD (mE a).s.bs i = gD (mNs a).s.bs i) /\ (mE a).s.used = (mNs a).s.used /\ (mE a).s.mix = (mNs a).s.mix /\ z_MadeF_176 a) /\ (mE a).ns = []) /\ ∀ (a_11 :
 One), (mE a).ns = [] -> (mdC a).p.lo = hLo a.s /\ (mdC a).p.hi = hHi a.s /\ (mdC a).base = hBs a.s /\ (mdC a).scale = hSc a.s /\ (mdC a).off = hOf a.s /\ z_MadeF_302 a /\ z_MadeF_303 a /\ z_MadeF_304 a /\ z_MadeF_304 a /\
 z_MadeF_305 a /\ z_MadeF_306 a /\ z_MadeF_307 a /\ z_MadeF_308 a /\ z_MadeF_309 a /\ z_MadeF_310 a /\ (mE a).s.bs.length = (mE a).s.bs.length /\ (∀ (i : Nat), z_MadeF_301 i a -> gD (mE a).s.bs i = gD (mE a).s.bs i) /\ (mE
 a).s.used = (mE a).s.used /\ (mE a).s.mix = (mE a).s.mix) /\ ∀ (a_9 : One), z_MadeF_300 a -> (∃ (a_11 : KN), ((↑a_11.i : Int) = IntKind.i64.wrap ((↑(mNs a).ns.length : Int) - (1 : Int)) /\ a_11.x.s.bs.length = (mNs
 a).s.bs.length /\ (∀ (i : Nat), z_MadeF_167 i a_11 -> gD a_11.x.s.bs i = gD (mNs a).s.bs i) /\ a_11.x.s.used = (mNs a).s.used /\ a_11.x.s.mix = (mNs a).s.mix /\ z_MadeF_35 /\ z_MadeF_35 /\ z_MadeF_35 /\ z_MadeF_35 /\ z_MadeF_35 /\
 z_MadeF_36 /\ z_MadeF_37 /\ z_MadeF_36 /\ z_MadeF_37 /\ z_MadeF_36 /\ z_MadeF_37 /\ z_MadeF_36 /\ z_MadeF_37 /\ z_MadeF_36 /\ z_MadeF_37 /\ hLo a.s = hLo a.s /\ hHi a.s = hHi a.s /\ hBs a.s = hBs a.s /\ hSc a.s = hSc a.s /\ hOf a.s =
 hOf a.s /\ z_MadeF_168 a /\ z_MadeF_169 a /\ z_MadeF_36 /\ z_MadeF_311 a_11 a /\ z_MadeF_170 a /\ z_MadeF_171 a /\ z_MadeF_172 a /\ z_MadeF_173 a /\ z_MadeF_174 a /\ z_MadeF_175 a /\ z_MadeF_311 a_11 a /\ ∀ (i : Nat), i <
 a_11.x.ns.length -> (gD a_11.x.ns i).mi = (gD (mNs a).ns i).mi /\ (gD a_11.x.ns i).t.lo = (gD (mNs a).ns i).t.lo /\ (gD a_11.x.ns i).t.hi = (gD (mNs a).ns i).t.hi /\ (gD a_11.x.ns i).s.lo = (gD (mNs a).ns i).s.lo /\ (gD
 a_11.x.ns i).s.hi = (gD (mNs a).ns i).s.hi) /\ z_MadeF_312 a a_11) /\ ∀ (a_11 : KN), z_MadeF_312 a a_11 -> bif decide ((↑a_11.i : Int) > (0 : Int)) then (z_MadeF_277 a_11 = z_MadeF_277 a_11 /\ z_MadeF_185 a_11) /\
 (z_MadeF_314 a_11 /\ z_MadeF_315 a_11 < a_11.x.ns.length /\ z_MadeF_316 a_11 /\ z_MadeF_318 a_11 /\ z_MadeF_316 a_11 /\ z_MadeF_318 a_11 /\ z_MadeF_314 a_11 /\ (z_MadeF_315 a_11).succ.le a_11.x.ns.length) /\ ∃ (a_13 : KN),
 ((↑a_13.i : Int) = IntKind.i64.wrap ((↑a_11.i : Int) - (1 : Int)) /\ a_13.x.s.bs.length = (z_MadeF_320 a_11).length /\ (∀ (i : Nat), z_MadeF_167 i a_13 -> gD a_13.x.s.bs i = gD (z_MadeF_320 a_11) i) /\ a_13.x.s.used =
 (z_MadeF_319 a_11).used /\ a_13.x.s.mix = (z_MadeF_319 a_11).mix /\ z_MadeF_35 /\ z_MadeF_35 /\ z_MadeF_35 /\ z_MadeF_35 /\ z_MadeF_35 /\ z_MadeF_36 /\ z_MadeF_37 /\ z_MadeF_36 /\ z_MadeF_37 /\ z_MadeF_36 /\ z_MadeF_37 /\ z_MadeF_36
 /\ z_MadeF_37 /\ z_MadeF_36 /\ z_MadeF_37 /\ hLo a.s = hLo a.s /\ hHi a.s = hHi a.s /\ hBs a.s = hBs a.s /\ hSc a.s = hSc a.s /\ hOf a.s = hOf a.s /\ z_MadeF_168 a /\ z_MadeF_169 a /\ z_MadeF_36 /\ z_MadeF_284 a_13 a_11 /\
 z_MadeF_170 a /\ z_MadeF_171 a /\ z_MadeF_172 a /\ z_MadeF_173 a /\ z_MadeF_174 a /\ z_MadeF_175 a /\ z_MadeF_284 a_13 a_11 /\ ∀ (i : Nat), i < a_13.x.ns.length -> ((gD a_13.x.ns i).mi = bif z_MadeF_321 i a_11 then (z_MadeF_322
 a_11).mi else bif z_MadeF_323 i a_11 then (z_MadeF_324 a_11).mi else (gD a_11.x.ns i).mi) /\ ((gD a_13.x.ns i).t.lo = bif z_MadeF_321 i a_11 then (z_MadeF_325 a_11).lo else bif z_MadeF_323 i a_11 then (z_MadeF_326
 a_11).lo else (gD a_11.x.ns i).t.lo) /\ ((gD a_13.x.ns i).t.hi = bif z_MadeF_321 i a_11 then (z_MadeF_325 a_11).hi else bif z_MadeF_323 i a_11 then (z_MadeF_326 a_11).hi else (gD a_11.x.ns i).t.hi) /\ ((gD a_13.x.ns
 i).s.lo = bif z_MadeF_321 i a_11 then (z_MadeF_327 a_11).lo else bif z_MadeF_323 i a_11 then (z_MadeF_328 a_11).lo else (gD a_11.x.ns i).s.lo) /\ (gD a_13.x.ns i).s.hi = bif z_MadeF_321 i a_11 then (z_MadeF_327 a_11).hi
 else bif z_MadeF_323 i a_11 then (z_MadeF_328 a_11).hi else (gD a_11.x.ns i).s.hi) /\ z_MadeF_312 a a_13 /\ a_13.i < a_11.i else (mdC a).p.lo = hLo a.s /\ (mdC a).p.hi = hHi a.s /\ (mdC a).base = hBs a.s /\ (mdC a).scale =
 hSc a.s /\ (mdC a).off = hOf a.s /\ z_MadeF_302 a /\ z_MadeF_303 a /\ (mdC a).ns.length = a_11.x.ns.length /\ (0 : Nat) + a_11.x.ns.length <= a_11.x.ns.length /\ (∀ (j : Nat), j < (mdC a).ns.length -> (gD (mdC a).ns j).mi =
 (z_MadeF_329 a_11 j).mi /\ (gD (mdC a).ns j).t.lo = (z_MadeF_330 a_11 j).lo /\ (gD (mdC a).ns j).t.hi = (z_MadeF_330 a_11 j).hi /\ (gD (mdC a).ns j).s.lo = (z_MadeF_331 a_11 j).lo /\ (gD (mdC a).ns j).s.hi = (z_MadeF_331
 a_11 j).hi) /\ z_MadeF_305 a /\ z_MadeF_306 a /\ z_MadeF_307 a /\ z_MadeF_308 a /\ z_MadeF_309 a /\ z_MadeF_310 a /\ (mE a).s.bs.length = a_11.x.s.bs.length /\ (∀ (i : Nat), z_MadeF_301 i a -> gD (mE a).s.bs i = gD a_11.x.s.bs i)
 /\ (mE a).s.used = a_11.x.s.used /\ (mE a).s.mix = a_11.x.s.mix) := by kernel_rfl
end Go.Bal
