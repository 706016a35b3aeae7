/- Package chart: charts and truths that are made of numbers. -/
import Derived.Test.YtdbjalgfomknhaaChV
set_option linter.unusedVariables false
set_option linter.unusedSimpArgs false
namespace Go.Bal
open Go Go.Sym Go.Proofs
structure MkI where
 s : Stm
 m : Int
 b : Bool
def dMkI (b : Bool) : List AVal -> Heap -> Option (MkI × List (Nat × Nat) × List Nat)
 | [.bptr p _, .d (.v (.int _ n)), .d (.v (.bool c))], H => match c == b, CBB H p with
  | true, some s => some (⟨s, n, b⟩, [(100, p)], [])
  | _, _ => none
 | _, _ => none
def gS1 (s : Stm) : Stm := KR s 1 12
def gS2 (s : Stm) : Stm := KR (gS1 s) (-50) 400
def gS3 (s : Stm) : Stm := BD (gS2 s) 12
def gS4 (s : Stm) : Stm := BD (gS3 s) 9
def gS5 (s : Stm) : Stm := BD (gS4 s) 6
def gS6 (s : Stm) : Stm := BD (gS5 s) 300
def GH (s : Stm) : Int := TF s 1 12
def JT (s : Stm) : Int := wr (GH s + AR (gS4 s) 6)
def LB (s : Stm) : Int := TF (gS1 s) (-50) 400
def IZ (s : Stm) : Int := AR (gS2 s) 12
def HI (s : Stm) : Int := AR (gS3 s) 9
def hTm (s : Stm) : Int := AR (gS5 s) 300
structure MS where
 s : Stm
 pl : Int
 tm : Int
 ms : List Mk
 t : List Int
 st : List Int
 z : List Int
 deriving Inhabited
def IN (x : MS) : Int := TF x.s 1 30
def advA (a : MkI) (x : MS) : MS := ⟨KR (KR x.s 1 30) (wr (GH a.s * IN x)) (wr (JT a.s * IN x)), wr (x.pl + IN x), wr (x.tm + TF (KR x.s 1 30) (wr (GH a.s * IN x)) (wr (JT a.s * IN x))), x.ms, x.t, x.st, x.z⟩
def advZ (a : MkI) (x : MS) : MS := bif a.b then bif AR x.s 5 == 0 then ⟨BD (BD x.s 5) 400, x.pl, wr (x.tm + AR (BD x.s 5) 400), x.ms, x.t, x.st, x.z ++ [wr ((x.ms.length : Int) - 1)]⟩ else ⟨BD x.s 5, x.pl, x.tm, x.ms, x.t, x.st, x.z⟩ else x
def yAt (a : MkI) (x : MS) : Int := wr (LB a.s + wr (IZ a.s * AR x.s 60))
def addM (a : MkI) (x : MS) : MS := ⟨KR (BD x.s 60) (wr (yAt a x - HI a.s)) (wr (yAt a x + HI a.s)), x.pl, x.tm, x.ms ++ [⟨x.pl, AR x.s 60⟩], x.t ++ [x.tm], x.st ++ [TF (BD x.s 60) (wr (yAt a x - HI a.s)) (wr (yAt a x + HI a.s))], x.z⟩
def goM (a : MkI) (x : MS) : MS := bif decide (0 < x.ms.length) then advZ a (advA a x) else x
def stpC (a : MkI) (x : MS) : MS := addM a (goM a x)
def Je (a : MkI) : Nat -> MS -> MS
 | 0, x => x
 | n + 1, x => Je a n (stpC a x)
def mS0 (a : MkI) : MS := ⟨KR (gS6 a.s) 1 a.m, 0, hTm a.s, [], [], [], []⟩
def mN (a : MkI) : Nat := (TF (gS6 a.s) 1 a.m).toNat
def mS (a : MkI) : MS := Je a (mN a) (mS0 a)
structure NSt where
 s : Stm
 ns : List Nt
 deriving Inhabited
def nS2 (s : Stm) : Stm := BD s 40
def nS3 (s : Stm) : Stm := BD (nS2 s) 40
def nS4 (s : Stm) : Stm := BD (nS3 s) 9
def nS5 (s : Stm) : Stm := BD (nS4 s) 9
def mkNt (a : MkI) (s : Stm) (i : Nat) : Nt := ⟨i, ⟨DJ 0 (wr (gD (mS a).t i - AR s 40)), wr (gD (mS a).t i + AR (nS2 s) 40)⟩, ⟨wr (gD (mS a).st i - AR (nS3 s) 9), wr (gD (mS a).st i + AR (nS4 s) 9)⟩⟩
def addN (a : MkI) (b : Bool) (i : Nat) (x : NSt) : NSt := bif b then ⟨nS5 x.s, x.ns ++ [mkNt a x.s i]⟩ else x
def stpN (a : MkI) (i : Nat) (x : NSt) : NSt := addN a (AR x.s 2 == 0) i ⟨BD x.s 2, x.ns⟩
def mkN (a : MkI) : Nat -> Nat -> NSt -> NSt
 | 0, _, x => x
 | n + 1, i, x => mkN a n (i + 1) (stpN a i x)
def KA (a : MkI) : NSt := mkN a (mS a).ms.length 0 ⟨(mS a).s, []⟩
def swN (l : List Nt) (i k : Nat) : List Nt := (l.set i (gD l k)).set k (gD l i)
def shK : Nat -> NSt -> NSt
 | 0, x => x
 | j + 1, x => shK j ⟨BD x.s ((j : Int) + 2), swN x.ns (j + 1) (AR x.s ((j : Int) + 2)).toNat⟩
def mE (a : MkI) : NSt := shK ((KA a).ns.length - 1) (KA a)
def HG (a : MkI) : Cht := ⟨⟨GH a.s, JT a.s⟩, LB a.s, IZ a.s, HI a.s, (mS a).ms, (mE a).ns⟩
def tK (a : MkI) : Tru := ⟨(mS a).t, (mS a).st, (mS a).z⟩
structure KS where
 k : Nat
 x : MS
 deriving Inhabited
structure KN where
 i : Nat
 x : NSt
 deriving Inhabited
def preM (a : MkI) : Prop := StmB 0 a.s /\ 1 <= a.m /\ a.m <= 14
def rowM (l : List Mk) : AObj := .row 2 l.length λ i => eMk (gD l i)
def rowN (l : List Nt) : AObj := .row 5 l.length λ i => eNt (gD l i)
def zCh : HCell := .live (.box [.int 0, .int 0, .int 0, .int 0, .int 0, .d GC, .d GC])
def zTr : HCell := .live (.box [.d GC, .d GC, .d GC])
def chC (a : MkI) (m n : AVal) : HCell := .live (.box [.int (GH a.s), .int (JT a.s), .int (LB a.s), .int (IZ a.s), .int (HI a.s), m, n])
def trC (t s z : AVal) : HCell := .live (.box [t, s, z])
def mdP : List (Nat × AVal) := [(0, .bptr 100 0), (6, .bptr 1000 0), (7, .bptr 1016 0), (8, .bptr 2160 0), (9, .bptr 4000 0)]
def mdS (b : Bool) (y : KS) : List (Nat × AVal) := mdP ++ [(2, .bool b), (10, .int y.x.pl), (11, .int y.x.tm), (12, .int y.k)]
def inv6 (a : MkI) (y : KS) : Prop := Je a y.k y.x = mS a /\ (y.k : Int) <= a.m /\ StmB (7 + 7 * (a.m - y.k)) y.x.s /\ ((y.x.ms.length : Int) + y.k <= a.m /\ y.x.t.length = y.x.ms.length /\ y.x.st.length = y.x.ms.length /\ (y.x.z = [] ∨ y.x.z.length + 1 <= y.x.ms.length))
def mdO (y : KS) : List (Nat × HCell) := [(301, .live (rowM y.x.ms)), (302, .live (rowI y.x.t)), (303, .live (rowI y.x.st))]
def ownM (y : KS) : AVal := .own 301 2 0 y.x.ms.length
def ownT (y : KS) (z : AVal) : HCell := trC (.own 302 1 0 y.x.t.length) (.own 303 1 0 y.x.st.length) z
def hpN (a : MkI) (y : KS) : List (Nat × HCell) := [(100, stmH y.x.s), (1000, zCh), (1016, zTr), (2160, chC a (.d GC) (.d GC)), (4000, zTr)]
def hpO (a : MkI) (y : KS) : List (Nat × HCell) := [(100, stmH y.x.s), (1000, zCh), (1016, zTr), (2160, chC a (ownM y) (.d GC)), (4000, ownT y (.d GC))] ++ mdO y
def hpP (a : MkI) (y : KS) : List (Nat × HCell) := [(100, stmH y.x.s), (1000, zCh), (1016, zTr), (2160, chC a (ownM y) (.d GC)), (4000, ownT y (.own 304 1 0 y.x.z.length))] ++ mdO y ++ [(304, .live (rowI y.x.z))]
def md6n (b : Bool) (a : MkI) : Shape := { α := KS, dflt := default, T := λ y => ⟨mdS b y, hpN a y⟩, inv := λ y => inv6 a y /\ 1 <= y.k /\ y.x.ms = [] /\ y.x.z = [], meas := λ y => 100, tag := [0] }
def md6o (b : Bool) (a : MkI) : Shape := { α := KS, dflt := default, T := λ y => ⟨mdS b y, hpO a y⟩, inv := λ y => inv6 a y /\ 1 <= y.x.ms.length /\ y.x.z = [], meas := λ y => y.k + 20, again := [(301, 18064), (302, 18144), (303, 18368)], tag := [1] }
def md6p (b : Bool) (a : MkI) : Shape := { α := KS, dflt := default, T := λ y => ⟨mdS b y, hpP a y⟩, inv := λ y => inv6 a y /\ 1 <= y.x.ms.length /\ 1 <= y.x.z.length, meas := λ y => y.k, again := [(301, 18064), (302, 18144), (303, 18368)], tag := [2] }
def CLZ (a : MkI) (y : KS) : Prop := Je a (y.k - 1) (addM a y.x) = mS a /\ (1 <= y.k /\ (y.k : Int) <= a.m) /\ StmB (11 + 7 * (a.m - y.k)) y.x.s /\ ((y.x.ms.length : Int) + y.k <= a.m /\ y.x.t.length = y.x.ms.length /\ y.x.st.length = y.x.ms.length /\ y.x.z.length <= y.x.ms.length)
def c15n (b : Bool) (a : MkI) (m : Nat) : Shape := { α := KS, dflt := default, T := λ y => ⟨mdS b y, hpN a y⟩, inv := λ y => CLZ a y /\ m = 100 /\ y.x.ms = [] /\ y.x.z = [], meas := λ _ => 0 }
def c15o (b : Bool) (a : MkI) (m : Nat) : Shape := { α := KS, dflt := default, T := λ y => ⟨mdS b y, hpO a y⟩, inv := λ y => CLZ a y /\ y.k + 20 <= m /\ 1 <= y.x.ms.length /\ y.x.z = [], meas := λ _ => 0 }
def c15p (b : Bool) (a : MkI) (m : Nat) (f : List (Nat × Nat)) : Shape := { α := KS, dflt := default, T := λ y => ⟨mdS b y, hpP a y⟩, inv := λ y => CLZ a y /\ y.k <= m /\ 1 <= y.x.ms.length /\ 1 <= y.x.z.length, meas := λ _ => 0, first := f }
def c15 (b : Bool) (a : MkI) (m : Nat) : Nat -> List Shape
 | 0 => [c15n b a m]
 | 1 => bif b then [c15o b a m, c15p b a m [(304, 14112)]] else [c15o b a m]
 | _ => [c15p b a m [(304, 14112)], c15p b a m []]
def mdH (a : MkI) (s : Stm) (n : AVal) : List (Nat × HCell) := [(100, stmH s), (1000, zCh), (1016, zTr), (2160, chC a (.d (eMks (mS a).ms)) n), (4000, trC (.d (DK (mS a).t)) (.d (DK (mS a).st)) (.d (DK (mS a).z)))]
def fin6 (a : MkI) : Prop := inv6 a ⟨0, mS a⟩
def md18 (a : MkI) (z : List Nat) : Shape := { α := One, dflt := default, T := λ _ => ⟨mdP, mdH a (mS a).s (.d GC)⟩, inv := λ _ => fin6 a, meas := λ _ => 0, ffz := z }
def CUH (a : MkI) (y : KN) : Prop := fin6 a /\ y.i <= (mS a).ms.length /\ StmB (7 + 7 * a.m + 5 * y.i) y.x.s /\ mkN a ((mS a).ms.length - y.i) y.i y.x = KA a /\ y.x.ns.length <= y.i
def DAZ (a : MkI) : Shape := { α := KN, dflt := default, T := λ y => ⟨mdP ++ [(16, .int y.i)], mdH a y.x.s (.d GC)⟩, inv := λ y => CUH a y /\ y.x.ns = [], meas := λ y => 100 - y.i, tag := [0] }
def CYF (a : MkI) : Shape := { α := KN, dflt := default, T := λ y => ⟨mdP ++ [(16, .int y.i)], mdH a y.x.s (.own 305 5 0 y.x.ns.length) ++ [(305, .live (rowN y.x.ns))]⟩, inv := λ y => CUH a y /\ 1 <= y.x.ns.length, meas := λ y => 100 - y.i, tag := [1] }
structure KNb where
 i : Nat
 x : NSt
 b : Bool
 deriving Inhabited
def CUP (a : MkI) (m : Nat) (y : KNb) : Prop := fin6 a /\ (y.i < (mS a).ms.length /\ 100 - y.i = m) /\ StmB (8 + 7 * a.m + 5 * y.i) y.x.s /\ mkN a ((mS a).ms.length - (y.i + 1)) (y.i + 1) (addN a y.b y.i y.x) = KA a /\ y.x.ns.length <= y.i
def c22n (a : MkI) (m : Nat) : Shape := { α := KNb, dflt := default, T := λ y => ⟨mdP ++ [(16, .int y.i), (142, .bool y.b)], mdH a y.x.s (.d GC)⟩, inv := λ y => CUP a m y /\ y.x.ns = [], meas := λ _ => 0 }
def c22o (a : MkI) (m : Nat) : Shape := { α := KNb, dflt := default, T := λ y => ⟨mdP ++ [(16, .int y.i), (142, .bool y.b)], mdH a y.x.s (.own 305 5 0 y.x.ns.length) ++ [(305, .live (rowN y.x.ns))]⟩, inv := λ y => CUP a m y /\ 1 <= y.x.ns.length, meas := λ _ => 0 }
def CSZ (a : MkI) (m : Nat) (y : KN) : Prop := fin6 a /\ (y.i < (mS a).ms.length /\ 100 - y.i = m) /\ StmB (12 + 7 * a.m + 5 * y.i) y.x.s /\ mkN a ((mS a).ms.length - (y.i + 1)) (y.i + 1) y.x = KA a /\ y.x.ns.length <= y.i + 1
def c20n (a : MkI) (m : Nat) : Shape := { α := KN, dflt := default, T := λ y => ⟨mdP ++ [(16, .int y.i)], mdH a y.x.s (.d GC)⟩, inv := λ y => CSZ a m y /\ y.x.ns = [], meas := λ _ => 0 }
def c20o (a : MkI) (m : Nat) (f : List (Nat × Nat)) : Shape := { α := KN, dflt := default, T := λ y => ⟨mdP ++ [(16, .int y.i)], mdH a y.x.s (.own 305 5 0 y.x.ns.length) ++ [(305, .live (rowN y.x.ns))]⟩, inv := λ y => CSZ a m y /\ 1 <= y.x.ns.length, meas := λ _ => 0, first := f }
def DAF (a : MkI) : Shape := { α := One, dflt := default, T := λ _ => ⟨mdP, mdH a (KA a).s (.d GC)⟩, inv := λ _ => fin6 a /\ (KA a).ns = [], meas := λ _ => 0, tag := [0] }
def CZB (a : MkI) : Shape := { α := One, dflt := default, T := λ _ => ⟨mdP, mdH a (KA a).s (.own 305 5 0 (KA a).ns.length) ++ [(305, .live (rowN (KA a).ns))]⟩, inv := λ _ => fin6 a /\ StmB (7 + 7 * a.m + 5 * a.m) (KA a).s /\ (1 <= (KA a).ns.length /\ ((KA a).ns.length : Int) <= a.m), meas := λ _ => 0, tag := [1] }
def DAI (a : MkI) (y : KN) : Prop := fin6 a /\ y.i < y.x.ns.length /\ StmB (7 + 7 * a.m + 5 * a.m + a.m - y.i) y.x.s /\ shK y.i y.x = mE a /\ (y.x.ns.length : Int) <= a.m
def CYV (a : MkI) : Shape := { α := One, dflt := default, T := λ _ => ⟨mdP ++ [(17, .int (-1))], mdH a (mE a).s (.d GC)⟩, inv := λ y => (mE a).ns = [], meas := λ y => 100 }
def CZY (a : MkI) : Shape := { α := KN, dflt := default, T := λ y => ⟨mdP ++ [(17, .int y.i)], mdH a y.x.s (.own 305 5 0 y.x.ns.length) ++ [(305, .live (rowN y.x.ns))]⟩, inv := λ y => DAI a y, meas := λ y => y.i }
def hdP (b : Bool) (a : MkI) : List (Nat × AVal) := [(0, .bptr 100 0), (1, .int a.m), (2, .bool b), (6, .bptr 1000 0), (7, .bptr 1016 0), (8, .bptr 2160 0)]
def ch2 (b : Bool) (a : MkI) : Shape := { α := One, dflt := default, T := λ _ => ⟨hdP b a, [(100, stmH (gS4 a.s)), (1000, zCh), (1016, zTr), (2160, .live (.box [.int (GH a.s), .int 0, .int (LB a.s), .int (IZ a.s), .int (HI a.s), .d GC, .d GC]))]⟩, inv := λ _ => StmB 4 (gS4 a.s), meas := λ _ => 0 }
def ch3 (b : Bool) (a : MkI) : Shape := { α := One, dflt := default, T := λ _ => ⟨hdP b a, [(100, stmH (gS5 a.s)), (1000, zCh), (1016, zTr), (2160, chC a (.d GC) (.d GC))]⟩, inv := λ _ => StmB 5 (gS5 a.s), meas := λ _ => 0 }
def ch5 (b : Bool) (a : MkI) : Shape := { α := One, dflt := default, T := λ _ => ⟨hdP b a ++ [(9, .bptr 4000 0), (10, .int 0), (11, .int (hTm a.s))], [(100, stmH (gS6 a.s)), (1000, zCh), (1016, zTr), (2160, chC a (.d GC) (.d GC)), (4000, zTr)]⟩, inv := λ _ => StmB 6 (gS6 a.s), meas := λ _ => 0 }
def CSV (a : MkI) (y : KS) : Prop := Je a (y.k - 1) (addM a (advZ a y.x)) = mS a /\ (1 <= y.k /\ (y.k : Int) <= a.m) /\ StmB (9 + 7 * (a.m - y.k)) y.x.s /\ ((y.x.ms.length : Int) + y.k <= a.m /\ y.x.t.length = y.x.ms.length /\ y.x.st.length = y.x.ms.length /\ y.x.z.length + 1 <= y.x.ms.length)
def c12o (b : Bool) (a : MkI) (m : Nat) : Shape := { α := KS, dflt := default, T := λ y => ⟨mdS b y, hpO a y⟩, inv := λ y => CSV a y /\ y.k + 20 <= m /\ 1 <= y.x.ms.length /\ y.x.z = [], meas := λ _ => 0 }
def c12p (b : Bool) (a : MkI) (m : Nat) : Shape := { α := KS, dflt := default, T := λ y => ⟨mdS b y, hpP a y⟩, inv := λ y => CSV a y /\ y.k <= m /\ 1 <= y.x.ms.length /\ 1 <= y.x.z.length, meas := λ _ => 0 }
def kN (b : Bool) : Ctr := { α := MkI, xs := λ a => [.bptr 100 0, .int a.m, .bool b], L := λ a => [(100, stmO a.s)], val := λ a => .tup [.d (YE (HG a)), .d (eTru (tK a))], keep := λ a => [(100, stmH (mE a).s)], pre := λ a => [preM a /\ a.b = b] }
def CME (b : Bool) (a : MkI) : Ann := { ann 217 [(BUV, C_Next.spec CAD), (AYY, C_Within.spec BYD)] with E := [100], md := λ id => if id = 12 then some (λ k => if k = 2 ∨ k = 3 ∨ k = 4 then (bif b then 8 else 9) else 0) else none, mt := λ id => id == 13 || id == 17 || id == 22, loops := λ id => if id = 6 then (bif b then some [md6n b a, md6o b a, md6p b a] else some [md6n b a, md6o b a]) else if id = 19 then some [DAZ a, CYF a] else none, inner := λ gs id => if id = 24 then (if gs.getD 0 0 = 0 then some [CYV a] else some [CZY a]) else none, cut := λ id => if id = 2 then some [ch2 b a] else if id = 3 then some [ch3 b a] else if id = 5 then some [ch5 b a] else if id = 18 then (bif b then some [md18 a [301, 302, 303], md18 a [301, 302, 303, 304]] else some [md18 a [301, 302, 303]]) else if id = 23 then some [DAF a, CZB a] else none, cutIn := λ gs id => if id = 15 then some (c15 b a (gs.getD 0 0) (gs.getD 1 0)) else if id = 12 then (if gs.getD 1 0 = 1 then some [c12o b a (gs.getD 0 0)] else some [c12p b a (gs.getD 0 0)]) else if id = 22 then (if gs.getD 1 0 = 0 then some [c22n a (gs.getD 0 0)] else some [c22o a (gs.getD 0 0)]) else if id = 20 then (if gs.getD 1 0 = 0 then some [c20n a (gs.getD 0 0), c20o a (gs.getD 0 0) [(305, 23640)]] else some [c20o a (gs.getD 0 0) [(305, 23640)], c20o a (gs.getD 0 0) []]) else none }
def CES (a : MkI) : Prop := BB Try.prog (CME false a) CCG (AL CCG) ((kN false).xs a) (AG ((kN false).L a)) ((kN false).val a) ((kN false).keep a) [] [305]
abbrev dB : Prop := (1 : Int) = Int.ofNat (1 : Nat)
abbrev AIP : Prop := (12 : Int) = Int.ofNat (12 : Nat)
abbrev cS (a : MkI) : List Int := AE a.s.bs.length λ (i : Nat) => gD a.s.bs i
abbrev AEI (a : MkI) : Nat := (cS a).length
abbrev AGQ (a : MkI) : Stm := Stm.mk (cS a) a.s.used a.s.mix
abbrev Yn (a : MkI) : Stm := KR (AGQ a) (1 : Int) (12 : Int)
abbrev ADD (a : MkI) : List Int := (Yn a).bs
abbrev Z9 (a : MkI) : Nat := (ADD a).length
abbrev U8 (a : MkI) (i : Nat) : Int := gD (ADD a) i
abbrev eU (a : MkI) : List Int := AE (Z9 a) λ (i : Nat) => U8 a i
abbrev gV (a : MkI) : Nat := (eU a).length
abbrev SR (a : MkI) : Int := (Yn a).used
abbrev Dx (a : MkI) : Int := (Yn a).mix
abbrev gF (a : MkI) : Stm := Stm.mk (eU a) (SR a) (Dx a)
abbrev Hf (a : MkI) : Stm := KR (gF a) (-50 : Int) (400 : Int)
abbrev rF (a : MkI) : List Int := (Hf a).bs
abbrev sP (a : MkI) : Nat := (rF a).length
abbrev sL (a : MkI) (i : Nat) : Int := gD (rF a) i
abbrev Em (a : MkI) : List Int := AE (sP a) λ (i : Nat) => sL a i
abbrev gO (a : MkI) : Nat := (Em a).length
abbrev SF (a : MkI) : Int := (Hf a).used
abbrev Gx (a : MkI) : Int := (Hf a).mix
abbrev NO : Prop := (9 : Int) = Int.ofNat (9 : Nat)
abbrev mK (a : MkI) : Stm := Stm.mk (Em a) (SF a) (Gx a)
abbrev Hv (a : MkI) : Stm := BD (mK a) (12 : Int)
abbrev nL (a : MkI) : List Int := (Hv a).bs
abbrev nO (a : MkI) : Nat := (nL a).length
abbrev rU (a : MkI) (i : Nat) : Int := gD (nL a) i
abbrev Fz (a : MkI) : List Int := AE (nO a) λ (i : Nat) => rU a i
abbrev kL (a : MkI) : Nat := (Fz a).length
abbrev TU (a : MkI) : Int := (Hv a).used
abbrev Fq (a : MkI) : Int := (Hv a).mix
abbrev mF (a : MkI) : Stm := Stm.mk (Fz a) (TU a) (Fq a)
abbrev Gr (a : MkI) : Stm := BD (mF a) (9 : Int)
abbrev iR (a : MkI) : List Int := (Gr a).bs
abbrev AF : Prop := Int.ofNat (0 : Nat) = Int.ofNat (0 : Nat)
abbrev AA : Prop := (0 : Nat) = (0 : Nat)
abbrev AD : Prop := ∀ (i : Nat), i < (0 : Nat) -> false = false
abbrev Fe : Prop := AA /\ AD /\ AA /\ AD
abbrev Gt (a : MkI) : List Int := AE (gS4 a.s).bs.length λ (i : Nat) => gD (gS4 a.s).bs i
abbrev mJ (a : MkI) : Nat := (Gt a).length
abbrev lQ (a : MkI) : Stm := Stm.mk (Gt a) (gS4 a.s).used (gS4 a.s).mix
abbrev In (a : MkI) : Stm := BD (lQ a) (6 : Int)
abbrev oK (a : MkI) : List Int := (In a).bs
abbrev Ea (a : MkI) : List Int := AE (gS5 a.s).bs.length λ (i : Nat) => gD (gS5 a.s).bs i
abbrev qP (a : MkI) : Nat := (Ea a).length
abbrev nV (a : MkI) : Stm := Stm.mk (Ea a) (gS5 a.s).used (gS5 a.s).mix
abbrev Fk (a : MkI) : Stm := BD (nV a) (300 : Int)
abbrev gS (a : MkI) : List Int := (Fk a).bs
abbrev Is (a : MkI) : Prop := AF /\ AF /\ AF /\ AF /\ AF /\ AA /\ AD /\ AA /\ AD /\ AA /\ AD /\ AA /\ AD /\ AA /\
 AD /\ GH a.s = GH a.s /\ JT a.s = JT a.s /\ LB a.s = LB a.s /\ IZ a.s = IZ a.s /\ HI a.s = HI a.s /\ AA /\ AD /\ AA /\ AD /\ AA /\ AD /\ Fe
abbrev Es (a : MkI) : List Int := AE (gS6 a.s).bs.length λ (i : Nat) => gD (gS6 a.s).bs i
abbrev tG (a : MkI) : Nat := (Es a).length
abbrev lS (a : MkI) : Stm := Stm.mk (Es a) (gS6 a.s).used (gS6 a.s).mix
abbrev Fp (a : MkI) : Stm := KR (lS a) (1 : Int) a.m
abbrev pZ (a : MkI) : List Int := (Fp a).bs
abbrev TM (i : Nat) (a : KS) : Prop := i < a.x.s.bs.length
abbrev qN (a : KS) (a1 : MkI) : Prop := (↑a.k : Int) <= a1.m
abbrev He (a : MkI) (a1 : KS) : Int := (7 : Int) * (a.m - (↑a1.k : Int))
abbrev Fh (a : KS) (a1 : MkI) : Prop := (↑a.x.ms.length : Int) + (↑a.k : Int) <= a1.m
abbrev Hr (a : KS) : Prop := a.x.t.length = a.x.ms.length
abbrev Gw (a : KS) : Prop := a.x.st.length = a.x.ms.length
abbrev qB (a : KS) : Prop := a.x.z.length + (1 : Nat) <= a.x.ms.length
abbrev sR (a : MkI) (a1 : KS) : Prop := Je a a1.k a1.x = mS a /\ qN a1 a /\ StmB ((7 : Int) + He a a1) a1.x.s /\ Fh a1 a /\ Hr a1 /\ Gw a1 /\ (a1.x.z = [] ∨ qB a1)
abbrev oI (a : KS) : Prop := (1 : Nat) <= a.k
abbrev gB (a : KS) : Prop := a.x.ms = [] /\ a.x.z = []
abbrev iQ (a : MkI) (a1 : KS) : Prop := sR a a1 /\ oI a1 /\ gB a1
abbrev gN (a : KS) : Bool := decide ((↑a.k : Int) > (0 : Int))
abbrev Ei (a : KS) (a1 : KS) : Prop := (↑a.k : Int) = (↑a1.k : Int)
abbrev jZ (a : KS) (a1 : KS) : Prop := a.x.s.bs.length = a1.x.s.bs.length
abbrev qK (a : KS) (a1 : KS) : Prop := ∀ (i : Nat), TM i a -> gD a.x.s.bs i = gD a1.x.s.bs i
abbrev rL (a : KS) (a1 : KS) : Prop := a.x.s.used = a1.x.s.used
abbrev rY (a : KS) (a1 : KS) : Prop := a.x.s.mix = a1.x.s.mix
abbrev oC (a : KS) : Nat := a.k - (1 : Nat)
abbrev qS (a : KS) (a1 : MkI) : Prop := oI a /\ qN a a1
abbrev lV (a : MkI) (a1 : KS) : Prop := Je a (oC a1) (addM a a1.x) = mS a /\ qS a1 a /\ StmB ((11 : Int) + He a a1) a1.x.s /\ Fh a1 a /\ Hr a1 /\ Gw a1 /\ a1.x.z.length
 <= a1.x.ms.length
abbrev kS (a : MkI) (a1 : KS) : Prop := lV a a1 /\ (100 : Nat) = (100 : Nat) /\ gB a1
abbrev Hy (a : KS) : List Int := AE a.x.s.bs.length λ (i : Nat) => gD a.x.s.bs i
abbrev oY (a : KS) : Nat := (Hy a).length
abbrev rJ (a : KS) : Prop := oY a = a.x.s.bs.length /\ (∀ (i : Nat), i < oY a -> gD (Hy a) i = gD a.x.s.bs i) /\ a.x.s.used = a.x.s.used /\ a.x.s.mix = a.x.s.mix /\ (a.x.s.used - (0 :
 Int)).NonNeg
abbrev tI (a : KS) : Prop := (60 : Int) = Int.ofNat (60 : Nat) /\ rJ a
abbrev Ik : Prop := (0 : Nat) < (0 : Nat)
abbrev Iw : Prop := (1 : Nat) <= (1 : Nat)
abbrev ME : Prop := (0 : Nat) < (1 : Nat)
abbrev rP : Prop := (2 : Nat) = (2 : Nat)
abbrev oH : Prop := Iw /\ (ME -> rP)
abbrev Do : Prop := true = true -> ME
abbrev Ht : Prop := (1 : Nat) <= (9223372036854775807 : Nat)
abbrev Eo : Prop := (1 : Nat) = (1 : Nat)
abbrev Du : Prop := Iw /\ (ME -> Eo)
abbrev rD : Prop := (True /\ (Ik -> (0 : Nat) = (1 : Nat))) /\ Du /\ Do /\ Ht /\ (8 : Nat) <= (140737488355328 : Nat)
abbrev TD (a : KS) : Stm := Stm.mk (Hy a) a.x.s.used a.x.s.mix
abbrev Jc (a : KS) : Int := AR (TD a) (60 : Int)
abbrev qD (a : MkI) (a1 : KS) : Int := IntKind.i64.wrap (LB a.s + IntKind.i64.wrap (IZ a.s * Jc a1))
abbrev SH (a : MkI) (a1 : KS) : Int := IntKind.i64.wrap (qD a a1 - HI a.s)
abbrev gW (a : MkI) (a1 : KS) : Prop := SH a a1 = SH a a1
abbrev UN (a : MkI) (a1 : KS) : Int := IntKind.i64.wrap (qD a a1 + HI a.s)
abbrev rK (a : MkI) (a1 : KS) : Prop := UN a a1 = UN a a1
abbrev Iy (a : KS) : Stm := BD (TD a) (60 : Int)
abbrev qA (a : KS) : List Int := (Iy a).bs
abbrev iI (a : KS) : Nat := (qA a).length
abbrev Wf (a : KS) (i : Nat) : Int := gD (qA a) i
abbrev VJ (a : KS) : List Int := AE (iI a) λ (i : Nat) => Wf a i
abbrev Te (a : KS) : Nat := (VJ a).length
abbrev Ld (a : KS) : Prop := Te a = iI a
abbrev Ss (a : KS) : Prop := ∀ (i : Nat), i < Te a -> gD (VJ a) i = Wf a i
abbrev OS (a : KS) : Int := (Iy a).used
abbrev Pq (a : KS) : Prop := OS a = OS a
abbrev WR (a : KS) : Int := (Iy a).mix
abbrev Nq (a : KS) : Prop := WR a = WR a
abbrev Ph (a : KS) : Prop := (0 : Int) <= OS a
abbrev Nr (a : KS) (a1 : KS) : Prop := (↑a.k : Int) = IntKind.i64.wrap ((↑a1.k : Int) - (1 : Int))
abbrev Kn (a : KS) : Stm := Stm.mk (VJ a) (OS a) (WR a)
abbrev VP (a : KS) (a1 : MkI) : Stm := KR (Kn a) (SH a1 a) (UN a1 a)
abbrev Ud (a : KS) (a1 : MkI) : List Int := (VP a a1).bs
abbrev Vf (a : KS) (a1 : KS) (a2 : MkI) : Prop := a.x.s.bs.length = (Ud a1 a2).length
abbrev Ug (a : KS) (a1 : KS) (a2 : MkI) : Prop := ∀ (i : Nat), TM i a -> gD a.x.s.bs i = gD (Ud a1 a2) i
abbrev Wa (a : KS) (a1 : KS) (a2 : MkI) : Prop := a.x.s.used = (VP a1 a2).used
abbrev Lu (a : KS) (a1 : KS) (a2 : MkI) : Prop := a.x.s.mix = (VP a1 a2).mix
abbrev Ua (a : KS) : Prop := a.x.ms.length = (1 : Nat)
abbrev Kw (a : KS) : Prop := a.x.t.length = (1 : Nat)
abbrev Pg (a : KS) : Prop := a.x.st.length = (1 : Nat)
abbrev Nm (a : KS) (a1 : MkI) : Int := TF (Kn a) (SH a1 a) (UN a1 a)
abbrev Mh (a : KS) : Prop := (1 : Nat) <= a.x.ms.length /\ a.x.z = []
abbrev WV (a : MkI) (a1 : KS) : Prop := sR a a1 /\ Mh a1
abbrev KD (a : KS) : Nat := a.k + (20 : Nat)
abbrev Qx (a : MkI) (a1 : KS) : Prop := (mS a).s.bs.length = a1.x.s.bs.length
abbrev Ti (a : MkI) (a1 : KS) : Prop := ∀ (i : Nat), i < (mS a).s.bs.length -> gD (mS a).s.bs i = gD a1.x.s.bs i
abbrev Lr (a : MkI) (a1 : KS) : Prop := (mS a).s.used = a1.x.s.used
abbrev Ka (a : MkI) (a1 : KS) : Prop := (mS a).s.mix = a1.x.s.mix
abbrev Qj (a : MkI) : Prop := (mS a).ms.length = (0 : Nat)
abbrev Le (a : MkI) : Prop := (mS a).t.length = (0 : Nat)
abbrev Qt (a : MkI) : Prop := (mS a).st.length = (0 : Nat)
abbrev Wi (a : MkI) : Prop := (mS a).z.length = (0 : Nat)
abbrev Lw (a : MkI) : Prop := Wi a /\ Wi a
abbrev EN (a : MkI) : Prop := Je a (0 : Nat) (mS a) = mS a /\ (↑(0 : Nat) : Int) <= a.m /\ StmB ((7 : Int) + (7 : Int) * (a.m - (↑(0 : Nat) : Int))) (mS a).s /\ (↑(mS a).ms.length : Int) + (↑(0 : Nat) : Int) <= a.m
 /\ (mS a).t.length = (mS a).ms.length /\ (mS a).st.length = (mS a).ms.length /\ ((mS a).z = [] ∨ (mS a).z.length + (1 : Nat) <= (mS a).ms.length)
abbrev VU (a : KS) : Int := TF (TD a) (1 : Int) (30 : Int)
abbrev OT (a : MkI) (a1 : KS) : Int := IntKind.i64.wrap (GH a.s * VU a1)
abbrev OC (a : MkI) (a1 : KS) : Int := IntKind.i64.wrap (JT a.s * VU a1)
abbrev WF (a : KS) : Stm := KR (TD a) (1 : Int) (30 : Int)
abbrev Wp (a : KS) : List Int := (WF a).bs
abbrev Vg (a : KS) : Nat := (Wp a).length
abbrev Jr (a : KS) (i : Nat) : Int := gD (Wp a) i
abbrev WL (a : KS) : List Int := AE (Vg a) λ (i : Nat) => Jr a i
abbrev Om (a : KS) : Nat := (WL a).length
abbrev OU (a : KS) : Int := (WF a).used
abbrev VM (a : KS) : Int := (WF a).mix
abbrev St (a : KS) : Stm := Stm.mk (WL a) (OU a) (VM a)
abbrev WI (a : KS) (a1 : MkI) : Stm := KR (St a) (OT a1 a) (OC a1 a)
abbrev Jp (a : KS) (a1 : MkI) : List Int := (WI a a1).bs
abbrev Lm (a : KS) (a1 : KS) : Prop := a.x.ms.length = a1.x.ms.length
abbrev Wb (a : KS) (a1 : KS) : Prop := a.x.t.length = a1.x.t.length
abbrev Ra (a : KS) (a1 : KS) : Prop := a.x.st.length = a1.x.st.length
abbrev We (a : MkI) (a1 : KS) (a2 : KS) : Prop := AF /\ AF /\ AF /\ AF /\ AF /\ AA /\ AD /\ AA /\ AD /\ AA /\ AD /\ AA /\
 AD /\ AA /\ AD /\ GH a.s = GH a.s /\ JT a.s = JT a.s /\ LB a.s = LB a.s /\ IZ a.s = IZ a.s /\ HI a.s = HI a.s /\ AA /\ Lm a1 a2 /\ AA /\ AD /\ AA /\
 Wb a1 a2 /\ AA /\ Ra a1 a2 /\ AA /\ AD /\ Lm a1 a2 /\ (∀ (i : Nat), i < a1.x.ms.length -> (gD a1.x.ms i).pl = (gD a2.x.ms i).pl /\ (gD a1.x.ms i).ht = (gD a2.x.ms i).ht) /\
 Wb a1 a2 /\ (∀ (i : Nat), i < a1.x.t.length -> gD a1.x.t i = gD a2.x.t i) /\ Ra a1 a2 /\ ∀ (i : Nat), i < a1.x.st.length -> gD a1.x.st i = gD a2.x.st i
abbrev Ky (a : KS) (a1 : KS) : Prop := KD a <= KD a1 /\ Mh a
abbrev Wl (a : MkI) (a1 : KS) (a2 : KS) : Prop := (Je a (oC a1) (addM a (advZ a a1.x)) = mS a /\ qS a1 a /\ StmB ((9 : Int) + He a a1) a1.x.s /\ Fh a1 a /\ Hr a1 /\
 Gw a1 /\ qB a1) /\ Ky a1 a2
abbrev Qf (a : KS) (a1 : KS) (a2 : MkI) : Prop := false = false /\ a.x.pl = a1.x.pl /\ a.x.tm = a1.x.tm /\ Ei a a1 /\ jZ a a1 /\ qK a a1 /\ rL a a1 /\ rY a a1 /\ We a2 a
 a1
abbrev WN (a : MkI) (a1 : KS) (a2 : KS) : Prop := lV a a1 /\ Ky a1 a2
abbrev OO : Prop := false = true -> ME
abbrev XD (a : KS) : Nat := a.x.ms.length + (1 : Nat)
abbrev VK (a : KS) : Nat := a.x.t.length + (1 : Nat)
abbrev VL (a : KS) : Nat := a.x.st.length + (1 : Nat)
abbrev Mf (a : KS) (a1 : KS) : Prop := a.x.ms.length = XD a1
abbrev Py (a : KS) (a1 : KS) : Prop := a.x.t.length = VK a1
abbrev Kh (a : KS) (a1 : KS) : Prop := a.x.st.length = VL a1
abbrev Ub (i : Nat) (a : KS) : Bool := decide (i < a.x.ms.length)
abbrev OR (j : Nat) : Nat := (0 : Nat) + j
abbrev Me (a : KS) (j : Nat) : Mk := gD a.x.ms (OR j)
abbrev HO (i : Nat) (a : KN) : Prop := i < a.x.s.bs.length
abbrev EG (a : MkI) : Prop := (mS a).ms.length = (mS a).ms.length
abbrev EH (a : MkI) : Prop := ∀ (i : Nat), i < (mS a).ms.length -> (gD (mS a).ms i).pl = (gD (mS a).ms i).pl /\ (gD (mS a).ms i).ht = (gD (mS a).ms i).ht
abbrev EI (a : MkI) : Prop := (mS a).t.length = (mS a).t.length
abbrev EJ (a : MkI) : Prop := ∀ (i : Nat), i < (mS a).t.length -> gD (mS a).t i = gD (mS a).t i
abbrev EL (a : MkI) : Prop := (mS a).st.length = (mS a).st.length
abbrev EO (a : MkI) : Prop := ∀ (i : Nat), i < (mS a).st.length -> gD (mS a).st i = gD (mS a).st i
abbrev EK (a : MkI) : Prop := (mS a).z.length = (mS a).z.length
abbrev EF (a : MkI) : Prop := ∀ (i : Nat), i < (mS a).z.length -> gD (mS a).z i = gD (mS a).z i
abbrev ID (a : MkI) : Prop := AF /\ AF /\ AF /\ AF /\ AF /\ AA /\ AD /\ AA /\ AD /\ AA /\ AD /\ AA /\ AD /\ AA /\
 AD /\ GH a.s = GH a.s /\ JT a.s = JT a.s /\ LB a.s = LB a.s /\ IZ a.s = IZ a.s /\ HI a.s = HI a.s /\ EG a /\ EH a /\ AA /\ AD /\ EI a /\ EJ a /\ EL a /\
 EO a /\ EK a /\ EF a
abbrev XO (a : MkI) : Int := (7 : Int) * a.m
abbrev Qv (a : MkI) : Int := (7 : Int) + XO a
abbrev Pf (a : KN) : Int := (5 : Int) * (↑a.i : Int)
abbrev Od (a : MkI) (a1 : KN) : Prop := EN a /\ a1.i <= (mS a).ms.length /\ StmB (Qv a + Pf a1) a1.x.s /\ mkN a ((mS a).ms.length - a1.i) a1.i a1.x = KA a /\ a1.x.ns.length <= a1.i
abbrev WY (a : MkI) (a1 : KN) : Prop := Od a a1 /\ a1.x.ns = []
abbrev Rk (a : KN) (a1 : MkI) : Bool := decide ((↑a.i : Int) < (↑(mS a1).ms.length : Int))
abbrev XX (a : KN) : List Int := AE a.x.s.bs.length λ (i : Nat) => gD a.x.s.bs i
abbrev Qu (a : KN) : Nat := (XX a).length
abbrev Vw (a : KN) : Prop := Qu a = a.x.s.bs.length /\ (∀ (i : Nat), i < Qu a -> gD (XX a) i = gD a.x.s.bs i) /\ a.x.s.used = a.x.s.used /\ a.x.s.mix = a.x.s.mix /\ (a.x.s.used - (0 :
 Int)).NonNeg
abbrev Mv (a : KN) : Prop := (2 : Int) = Int.ofNat (2 : Nat) /\ Vw a
abbrev Kb (a : KNb) (a1 : KN) : Prop := (↑a.i : Int) = (↑a1.i : Int)
abbrev OB (a : KN) : Stm := Stm.mk (XX a) a.x.s.used a.x.s.mix
abbrev Vl (a : KNb) (a1 : KN) : Prop := a.b = (AR (OB a1) (2 : Int) == (0 : Int))
abbrev VF (a : KN) : Stm := BD (OB a) (2 : Int)
abbrev Vi (a : KN) : List Int := (VF a).bs
abbrev Qh (a : KNb) (a1 : KN) : Prop := a.x.s.bs.length = (Vi a1).length
abbrev Oe (a : KNb) (a1 : KN) : Prop := ∀ (i : Nat), i < a.x.s.bs.length -> gD a.x.s.bs i = gD (Vi a1) i
abbrev Rv (a : KNb) (a1 : KN) : Prop := a.x.s.used = (VF a1).used
abbrev Pe (a : KNb) (a1 : KN) : Prop := a.x.s.mix = (VF a1).mix
abbrev JV (a : KN) : Nat := (100 : Nat) - a.i
abbrev Kz (a : KNb) : Nat := a.i + (1 : Nat)
abbrev Jq (a : MkI) (a1 : KNb) (a2 : KN) : Prop := EN a /\ (a1.i < (mS a).ms.length /\ (100 : Nat) - a1.i = JV a2) /\ StmB ((8 : Int) + XO a + (5 : Int) * (↑a1.i : Int)) a1.x.s /\ mkN a
 ((mS a).ms.length - Kz a1) (Kz a1) (addN a a1.b a1.i a1.x) = KA a /\ a1.x.ns.length <= a1.i
abbrev Rs (a : MkI) (a1 : KNb) (a2 : KN) : Prop := Jq a a1 a2 /\ a1.x.ns = []
abbrev Mi (a : KNb) : Prop := (0 : Int) <= (↑a.i : Int)
abbrev PE (a : KNb) (a1 : MkI) : Prop := Mi a /\ (↑a.i : Int) < (↑(mS a1).t.length : Int)
abbrev PB : Prop := (40 : Int) = Int.ofNat (40 : Nat)
abbrev WE (a : KNb) : List Int := AE a.x.s.bs.length λ (i : Nat) => gD a.x.s.bs i
abbrev Pt (a : KNb) : Nat := (WE a).length
abbrev Sr (a : KNb) : Prop := Pt a = a.x.s.bs.length
abbrev Uz (a : KNb) : Prop := ∀ (i : Nat), i < Pt a -> gD (WE a) i = gD a.x.s.bs i
abbrev Ku (a : KNb) : Prop := a.x.s.used = a.x.s.used
abbrev Pa (a : KNb) : Prop := a.x.s.mix = a.x.s.mix
abbrev Qw (a : KNb) : Prop := (0 : Int) <= a.x.s.used
abbrev Tm (a : KNb) : Stm := Stm.mk (WE a) a.x.s.used a.x.s.mix
abbrev VQ (a : KNb) : Stm := BD (Tm a) (40 : Int)
abbrev Jv (a : KNb) : List Int := (VQ a).bs
abbrev Rp (a : KNb) : Nat := (Jv a).length
abbrev Uq (a : KNb) (i : Nat) : Int := gD (Jv a) i
abbrev XS (a : KNb) : List Int := AE (Rp a) λ (i : Nat) => Uq a i
abbrev Uw (a : KNb) : Nat := (XS a).length
abbrev Oa (a : KNb) : Prop := Uw a = Rp a
abbrev Lq (a : KNb) : Prop := ∀ (i : Nat), i < Uw a -> gD (XS a) i = Uq a i
abbrev PD (a : KNb) : Int := (VQ a).used
abbrev Sa (a : KNb) : Prop := PD a = PD a
abbrev XJ (a : KNb) : Int := (VQ a).mix
abbrev Ut (a : KNb) : Prop := XJ a = XJ a
abbrev Tn (a : KNb) : Prop := (0 : Int) <= PD a
abbrev OP (a : KNb) (a1 : MkI) : Prop := Mi a /\ (↑a.i : Int) < (↑(mS a1).st.length : Int)
abbrev Nl (a : KNb) : Stm := Stm.mk (XS a) (PD a) (XJ a)
abbrev XQ (a : KNb) : Stm := BD (Nl a) (40 : Int)
abbrev Uy (a : KNb) : List Int := (XQ a).bs
abbrev Nf (a : KNb) : Nat := (Uy a).length
abbrev Sy (a : KNb) (i : Nat) : Int := gD (Uy a) i
abbrev WJ (a : KNb) : List Int := AE (Nf a) λ (i : Nat) => Sy a i
abbrev Vp (a : KNb) : Nat := (WJ a).length
abbrev Jn (a : KNb) : Prop := Vp a = Nf a
abbrev Vh (a : KNb) : Prop := ∀ (i : Nat), i < Vp a -> gD (WJ a) i = Sy a i
abbrev OZ (a : KNb) : Int := (XQ a).used
abbrev Nn (a : KNb) : Prop := OZ a = OZ a
abbrev VD (a : KNb) : Int := (XQ a).mix
abbrev Pp (a : KNb) : Prop := VD a = VD a
abbrev Vm (a : KNb) : Prop := (0 : Int) <= OZ a
abbrev Ly (a : KNb) : Stm := Stm.mk (WJ a) (OZ a) (VD a)
abbrev WO (a : KNb) : Stm := BD (Ly a) (9 : Int)
abbrev Tj (a : KNb) : List Int := (WO a).bs
abbrev Qd (a : KNb) : Nat := (Tj a).length
abbrev Si (a : KNb) (i : Nat) : Int := gD (Tj a) i
abbrev XY (a : KNb) : List Int := AE (Qd a) λ (i : Nat) => Si a i
abbrev Pu (a : KNb) : Nat := (XY a).length
abbrev Kp (a : KNb) : Prop := Pu a = Qd a
abbrev Pj (a : KNb) : Prop := ∀ (i : Nat), i < Pu a -> gD (XY a) i = Si a i
abbrev PI (a : KNb) : Int := (WO a).used
abbrev Vz (a : KNb) : Prop := PI a = PI a
abbrev XI (a : KNb) : Int := (WO a).mix
abbrev Vc (a : KNb) : Prop := XI a = XI a
abbrev Qp (a : KNb) : Prop := (0 : Int) <= PI a
abbrev Uj : Prop := (5 : Nat) = (5 : Nat)
abbrev Ri : Prop := Iw /\ (ME -> Uj)
abbrev OQ (a : KN) (a1 : KNb) : Prop := (↑a.i : Int) = (↑a1.i : Int)
abbrev Pd (a : KNb) : Stm := Stm.mk (XY a) (PI a) (XI a)
abbrev XK (a : KNb) : Stm := BD (Pd a) (9 : Int)
abbrev Ry (a : KNb) : List Int := (XK a).bs
abbrev Tp (a : KN) (a1 : KNb) : Prop := a.x.s.bs.length = (Ry a1).length
abbrev Kt (a : KN) (a1 : KNb) : Prop := ∀ (i : Nat), HO i a -> gD a.x.s.bs i = gD (Ry a1) i
abbrev Qb (a : KN) (a1 : KNb) : Prop := a.x.s.used = (XK a1).used
abbrev Wc (a : KN) (a1 : KNb) : Prop := a.x.s.mix = (XK a1).mix
abbrev Ot (a : KN) : Prop := a.x.ns.length = (1 : Nat)
abbrev Ni (a : MkI) (a1 : KNb) : Int := DJ (0 : Int) (IntKind.i64.wrap (gD (mS a).t a1.i - AR (Tm a1) (40 : Int)))
abbrev Rt (a : MkI) (a1 : KNb) : Int := IntKind.i64.wrap (gD (mS a).t a1.i + AR (Nl a1) (40 : Int))
abbrev Jm (a : MkI) (a1 : KNb) : Int := IntKind.i64.wrap (gD (mS a).st a1.i - AR (Ly a1) (9 : Int))
abbrev Up (a : MkI) (a1 : KNb) : Int := IntKind.i64.wrap (gD (mS a).st a1.i + AR (Pd a1) (9 : Int))
abbrev XZ (a : KN) : Nat := a.i + (1 : Nat)
abbrev Tq (a : MkI) (a1 : KN) (a2 : KN) : Prop := EN a /\ (a1.i < (mS a).ms.length /\ JV a1 = JV a2) /\ StmB ((12 : Int) + XO a + Pf a1) a1.x.s /\ mkN a ((mS a).ms.length
 - XZ a1) (XZ a1) a1.x = KA a /\ a1.x.ns.length <= XZ a1
abbrev Lh (a : KN) : Prop := (1 : Nat) <= a.x.ns.length
abbrev OK (a : MkI) (a1 : KN) (a2 : KN) : Prop := Tq a a1 a2 /\ Lh a1
abbrev Sz (a : KN) (a1 : KNb) : Prop := a.x.s.bs.length = a1.x.s.bs.length
abbrev Mr (a : KN) (a1 : KNb) : Prop := ∀ (i : Nat), HO i a -> gD a.x.s.bs i = gD a1.x.s.bs i
abbrev Oo (a : KN) (a1 : KNb) : Prop := a.x.s.used = a1.x.s.used
abbrev Wh (a : KN) (a1 : KNb) : Prop := a.x.s.mix = a1.x.s.mix
abbrev Ny (a : MkI) (a1 : KN) (a2 : KN) : Prop := Tq a a1 a2 /\ a1.x.ns = []
abbrev KC (a : KN) : Int := IntKind.i64.wrap ((↑a.i : Int) + (1 : Int))
abbrev Ue (a : KN) (a1 : KN) : Prop := (↑a.i : Int) = KC a1
abbrev Rg (a : KN) (a1 : KN) : Prop := a.x.s.bs.length = a1.x.s.bs.length
abbrev Tx (a : KN) (a1 : KN) : Prop := ∀ (i : Nat), HO i a -> gD a.x.s.bs i = gD a1.x.s.bs i
abbrev Ux (a : KN) (a1 : KN) : Prop := a.x.s.used = a1.x.s.used
abbrev Wq (a : KN) (a1 : KN) : Prop := a.x.s.mix = a1.x.s.mix
abbrev Nj (a : KN) (a1 : KN) : Prop := JV a < JV a1
abbrev OG (a : KN) (a1 : KN) : Prop := a.x.ns.length = a1.x.ns.length
abbrev Mg (a : MkI) (a1 : KN) : Prop := Od a a1 /\ Lh a1
abbrev VN (a : MkI) (a1 : KN) : Prop := ∀ (a_1 : KN), OK a a_1 a1 -> ∃ (a_3 : KN), (Ue a_3 a_1 /\ Rg a_3 a_1 /\ Tx a_3 a_1 /\ Ux a_3 a_1 /\ Wq a_3 a_1 /\
 AF /\ AF /\ AF /\ AF /\ AF /\ AA /\ AD /\ AA /\ AD /\ AA /\ AD /\ AA /\ AD /\ AA /\ AD /\ GH a.s = GH a.s /\ JT
 a.s = JT a.s /\ LB a.s = LB a.s /\ IZ a.s = IZ a.s /\ HI a.s = HI a.s /\ EG a /\ EH a /\ AA /\ OG a_3 a_1 /\ EI a /\ EJ a /\ EL a /\ EO a /\ EK a
 /\ EF a /\ OG a_3 a_1 /\ ∀ (i : Nat), i < a_3.x.ns.length -> (gD a_3.x.ns i).mi = (gD a_1.x.ns i).mi /\ (gD a_3.x.ns i).t.lo = (gD a_1.x.ns i).t.lo /\ (gD a_3.x.ns i).t.hi = (gD a_1.x.ns i).t.hi /\ (gD
 a_3.x.ns i).s.lo = (gD a_1.x.ns i).s.lo /\ (gD a_3.x.ns i).s.hi = (gD a_1.x.ns i).s.hi) /\ Mg a a_3 /\ Nj a_3 a1
abbrev Vv (a : MkI) (a1 : KN) : Prop := (KA a).s.bs.length = a1.x.s.bs.length
abbrev Pc (a : MkI) (a1 : KN) : Prop := ∀ (i : Nat), i < (KA a).s.bs.length -> gD (KA a).s.bs i = gD a1.x.s.bs i
abbrev Li (a : MkI) (a1 : KN) : Prop := (KA a).s.used = a1.x.s.used
abbrev Jk (a : MkI) (a1 : KN) : Prop := (KA a).s.mix = a1.x.s.mix
abbrev Qq (a : MkI) : Prop := EN a /\ (KA a).ns = []
abbrev Jt (a : KNb) (a1 : KN) : Prop := a.x.ns.length = a1.x.ns.length
abbrev Rn (a : MkI) (a1 : KNb) (a2 : KN) : Prop := Jq a a1 a2 /\ (1 : Nat) <= a1.x.ns.length
abbrev WH (a : KNb) : Nat := a.x.ns.length + (1 : Nat)
abbrev Vs (a : KN) (a1 : KNb) : Prop := a.x.ns.length = WH a1
abbrev JZ (i : Nat) (a : KNb) : Bool := decide (i < a.x.ns.length)
abbrev Ns (a : KN) (a1 : KNb) : Prop := a.x.ns.length = a1.x.ns.length
abbrev Mm (a : MkI) (a1 : KN) : Prop := (KA a).ns.length = a1.x.ns.length
abbrev Tv (a : MkI) : Int := Qv a + (5 : Int) * a.m
abbrev Rz (a : MkI) : Prop := EN a /\ StmB (Tv a) (KA a).s /\ (1 : Nat) <= (KA a).ns.length /\ (↑(KA a).ns.length : Int) <= a.m
abbrev WT (i : Nat) (a : MkI) : Prop := i < (mE a).s.bs.length
abbrev Lb (a : MkI) : Prop := (HG a).ms.length = (mS a).ms.length
abbrev Mp (a : MkI) : Prop := ∀ (i : Nat), i < (HG a).ms.length -> (gD (HG a).ms i).pl = (gD (mS a).ms i).pl /\ (gD (HG a).ms i).ht = (gD (mS a).ms i).ht
abbrev Mz (a : MkI) : Prop := (HG a).ns.length = (0 : Nat)
abbrev Mn (a : MkI) : Prop := (tK a).t.length = (mS a).t.length
abbrev Qk (a : MkI) : Prop := ∀ (i : Nat), i < (tK a).t.length -> gD (tK a).t i = gD (mS a).t i
abbrev Mw (a : MkI) : Prop := (tK a).s.length = (mS a).st.length
abbrev Jw (a : MkI) : Prop := ∀ (i : Nat), i < (tK a).s.length -> gD (tK a).s i = gD (mS a).st i
abbrev Kq (a : MkI) : Prop := (tK a).z.length = (mS a).z.length
abbrev Wj (a : MkI) : Prop := ∀ (i : Nat), i < (tK a).z.length -> gD (tK a).z i = gD (mS a).z i
abbrev Xa (a : KN) (a1 : MkI) : Prop := a.x.ns.length = (KA a1).ns.length
abbrev VA (a : MkI) (a1 : KN) : Prop := EN a /\ a1.i < a1.x.ns.length /\ StmB (Tv a + a.m - (↑a1.i : Int)) a1.x.s /\ shK a1.i a1.x = mE a /\ (↑a1.x.ns.length : Int) <= a.m
abbrev VC (a : KN) : Int := AR (OB a) (KC a)
abbrev Lc (a : KN) : Prop := (0 : Int) <= VC a /\ VC a < (↑a.x.ns.length : Int)
abbrev PF (a : KN) : Nat := (0 : Nat) + (VC a).toNat
abbrev Nb (a : KN) : Prop := (0 : Int) <= (↑a.i : Int) /\ (↑a.i : Int) < (↑a.x.ns.length : Int)
abbrev VB (a : KN) : Nat := (0 : Nat) + a.i
abbrev Ow (a : KN) : Prop := VB a < a.x.ns.length
abbrev VX (a : KN) : Stm := BD (OB a) (KC a)
abbrev Nk (a : KN) : List Int := (VX a).bs
abbrev KF (i : Nat) (a : KN) : Bool := decide (i = PF a)
abbrev WS (a : KN) : Nt := gD a.x.ns (VB a)
abbrev JX (i : Nat) (a : KN) : Bool := decide (i = VB a)
abbrev XG (a : KN) : Nt := gD a.x.ns (PF a)
abbrev Sb (a : KN) : Span := (WS a).t
abbrev Pm (a : KN) : Span := (XG a).t
abbrev Nh (a : KN) : Span := (WS a).s
abbrev Ou (a : KN) : Span := (XG a).s
abbrev UX (a : KN) (j : Nat) : Nt := gD a.x.ns (OR j)
abbrev Vt (a : KN) (j : Nat) : Span := (UX a j).t
abbrev Th (a : KN) (j : Nat) : Span := (UX a j).s
theorem CKJ (a : MkI) : (CES a) = (((dB /\ AIP /\ AEI a = a.s.bs.length /\ (∀ (i : Nat), i < AEI a -> gD (cS a) i = gD a.s.bs i) /\ a.s.used = a.s.used /\ a.s.mix = a.s.mix /\ (0 : Int)
 <= a.s.used /\ (-50 : Int) = Int.negSucc (49 : Nat) /\ (400 : Int) = Int.ofNat (400 : Nat) /\ gV a = Z9 a /\ (∀ (i : Nat), i < gV a -> gD (eU a) i = U8 a i) /\ SR a = SR a /\
 Dx a = Dx a /\ (0 : Int) <= SR a /\ AIP /\ gO a = sP a /\ (∀ (i : Nat), i < gO a -> gD (Em a) i = sL a i) /\ SF a = SF a /\ Gx a =
 Gx a /\ (0 : Int) <= SF a /\ NO /\ kL a = nO a /\ (∀ (i : Nat), i < kL a -> gD (Fz a) i = rU a i) /\ TU a = TU a /\ Fq a = Fq a /\
 (TU a - (0 : Int)).NonNeg) /\ ∃ (a_1 : One), (a.m = a.m /\ false = false /\ (gS4 a.s).bs.length = (iR a).length /\ (∀ (i : Nat), i < (gS4 a.s).bs.length -> gD (gS4 a.s).bs i = gD (iR a) i) /\ (gS4
 a.s).used = (Gr a).used /\ (gS4 a.s).mix = (Gr a).mix /\ AF /\ AF /\ AF /\ AF /\ AF /\ AA /\ AD /\ AA /\ AD /\ AA /\ AD /\
 AA /\ AD /\ AA /\ AD /\ GH a.s = TF (AGQ a) (1 : Int) (12 : Int) /\ AF /\ LB a.s = TF (gF a) (-50 : Int) (400 : Int) /\ IZ a.s = AR (mK a) (12 : Int) /\ HI
 a.s = AR (mF a) (9 : Int) /\ Fe) /\ StmB (4 : Int) (gS4 a.s)) /\ ∀ (a_1 : One), StmB (4 : Int) (gS4 a.s) -> (((6 : Int) = Int.ofNat (6 : Nat) /\ mJ a = (gS4 a.s).bs.length /\ (∀ (i : Nat), i <
 mJ a -> gD (Gt a) i = gD (gS4 a.s).bs i) /\ (gS4 a.s).used = (gS4 a.s).used /\ (gS4 a.s).mix = (gS4 a.s).mix /\ ((gS4 a.s).used - (0 : Int)).NonNeg) /\ ∃ (a_3 : One), (a.m = a.m /\ false = false /\ (gS5
 a.s).bs.length = (oK a).length /\ (∀ (i : Nat), i < (gS5 a.s).bs.length -> gD (gS5 a.s).bs i = gD (oK a) i) /\ (gS5 a.s).used = (In a).used /\ (gS5 a.s).mix = (In a).mix /\ AF /\
 AF /\ AF /\ AF /\ AF /\ AA /\ AD /\ AA /\ AD /\ AA /\ AD /\ AA /\ AD /\ AA /\ AD /\ GH a.s = GH a.s /\ JT a.s =
 IntKind.i64.wrap (GH a.s + AR (lQ a) (6 : Int)) /\ LB a.s = LB a.s /\ IZ a.s = IZ a.s /\ HI a.s = HI a.s /\ Fe) /\ StmB (5 : Int) (gS5 a.s)) /\ ∀ (a_3 : One), StmB (5 : Int) (gS5 a.s) -> (((300 : Int)
 = Int.ofNat (300 : Nat) /\ qP a = (gS5 a.s).bs.length /\ (∀ (i : Nat), i < qP a -> gD (Ea a) i = gD (gS5 a.s).bs i) /\ (gS5 a.s).used = (gS5 a.s).used /\ (gS5 a.s).mix = (gS5 a.s).mix /\ ((gS5 a.s).used
 - (0 : Int)).NonNeg) /\ ∃ (a_5 : One), (a.m = a.m /\ false = false /\ AF /\ hTm a.s = AR (nV a) (300 : Int) /\ (gS6 a.s).bs.length = (gS a).length /\ (∀ (i : Nat), i < (gS6 a.s).bs.length -> gD (gS6
 a.s).bs i = gD (gS a) i) /\ (gS6 a.s).used = (Fk a).used /\ (gS6 a.s).mix = (Fk a).mix /\ Is a) /\ StmB (6 : Int) (gS6 a.s)) /\ ∀ (a_5 : One), StmB (6 : Int) (gS6 a.s) -> ((dB /\ a.m = a.m
 /\ tG a = (gS6 a.s).bs.length /\ (∀ (i : Nat), i < tG a -> gD (Es a) i = gD (gS6 a.s).bs i) /\ (gS6 a.s).used = (gS6 a.s).used /\ (gS6 a.s).mix = (gS6 a.s).mix /\ ((gS6 a.s).used - (0 : Int)).NonNeg) /\
 (∃ (a_7 : KS), (false = false /\ a_7.x.pl = (0 : Int) /\ a_7.x.tm = hTm a.s /\ (↑a_7.k : Int) = TF (lS a) (1 : Int) a.m /\ a_7.x.s.bs.length = (pZ a).length /\ (∀ (i : Nat), TM i a_7 -> gD a_7.x.s.bs
 i = gD (pZ a) i) /\ a_7.x.s.used = (Fp a).used /\ a_7.x.s.mix = (Fp a).mix /\ Is a) /\ iQ a a_7) /\ (∀ (a_7 : KS), iQ a a_7 -> bif gN a_7 then (∃ (a_9 : KS), (false =
 false /\ a_9.x.pl = a_7.x.pl /\ a_9.x.tm = a_7.x.tm /\ Ei a_9 a_7 /\ jZ a_9 a_7 /\ qK a_9 a_7 /\ rL a_9 a_7 /\ rY a_9 a_7 /\ Is a) /\ kS a a_9) /\ ∀ (a_9 : KS), kS a
 a_9 -> tI a_9 /\ (((True /\ (Ik -> (0 : Nat) = (2 : Nat))) /\ oH /\ Do /\ Ht /\ (16 : Nat) <= (140737488355328 : Nat)) /\ rD /\ gW a a_9 /\ rK a a_9 /\ Ld a_9 /\
 Ss a_9 /\ Pq a_9 /\ Nq a_9 /\ Ph a_9 /\ rD) /\ ∃ (a_11 : KS), (false = false /\ a_11.x.pl = a_9.x.pl /\ a_11.x.tm = a_9.x.tm /\ Nr a_11 a_9 /\ Vf a_11 a_9 a /\
 Ug a_11 a_9 a /\ Wa a_11 a_9 a /\ Lu a_11 a_9 a /\ AF /\ AF /\ AF /\ AF /\ AF /\ AA /\ AD /\ AA /\ AD /\ AA /\ AD /\
 AA /\ AD /\ AA /\ AD /\ GH a.s = GH a.s /\ JT a.s = JT a.s /\ LB a.s = LB a.s /\ IZ a.s = IZ a.s /\ HI a.s = HI a.s /\ AA /\ Ua a_11 /\ AA /\ AD /\ AA
 /\ Kw a_11 /\ AA /\ Pg a_11 /\ AA /\ AD /\ Ua a_11 /\ (∀ (i : Nat), i < a_11.x.ms.length -> (gD a_11.x.ms i).pl = a_9.x.pl /\ (gD a_11.x.ms i).ht = Jc a_9) /\ Kw
 a_11 /\ (∀ (i : Nat), i < a_11.x.t.length -> gD a_11.x.t i = a_9.x.tm) /\ Pg a_11 /\ ∀ (i : Nat), i < a_11.x.st.length -> gD a_11.x.st i = Nm a_9 a) /\ WV a a_11 /\ KD a_11 < (100 : Nat) else
 ∃ (a_9 : One), (Qx a a_7 /\ Ti a a_7 /\ Lr a a_7 /\ Ka a a_7 /\ AF /\ AF /\ AF /\ AF /\ AF /\ AA /\ AD /\ AA /\ AD /\
 AA /\ AD /\ AA /\ AD /\ AA /\ AD /\ GH a.s = GH a.s /\ JT a.s = JT a.s /\ LB a.s = LB a.s /\ IZ a.s = IZ a.s /\ HI a.s = HI a.s /\ Qj a /\ Qj a /\ AA
 /\ AD /\ Le a /\ Le a /\ Qt a /\ Qt a /\ Lw a) /\ EN a) /\ ∀ (a_7 : KS), WV a a_7 -> bif gN a_7 then (bif decide ((↑a_7.x.ms.length : Int) > (0 :
 Int)) then (dB /\ (30 : Int) = Int.ofNat (30 : Nat) /\ rJ a_7) /\ ((OT a a_7 = OT a a_7 /\ OC a a_7 = OC a a_7 /\ Om a_7 = Vg a_7 /\ (∀ (i : Nat), i <
 Om a_7 -> gD (WL a_7) i = Jr a_7 i) /\ OU a_7 = OU a_7 /\ VM a_7 = VM a_7 /\ (OU a_7 - (0 : Int)).NonNeg) /\ ∃ (a_9 : KS), (false = false /\ a_9.x.pl =
 IntKind.i64.wrap (a_7.x.pl + VU a_7) /\ a_9.x.tm = IntKind.i64.wrap (a_7.x.tm + TF (St a_7) (OT a a_7) (OC a a_7)) /\ Ei a_9 a_7 /\ a_9.x.s.bs.length = (Jp a_7
 a).length /\ (∀ (i : Nat), TM i a_9 -> gD a_9.x.s.bs i = gD (Jp a_7 a) i) /\ a_9.x.s.used = (WI a_7 a).used /\ a_9.x.s.mix = (WI a_7 a).mix /\ We a a_9 a_7) /\ Wl a a_9 a_7)
 /\ ∀ (a_9 : KS), Wl a a_9 a_7 -> false = false /\ false = false /\ false = false /\ (false = true -> false = true) /\ ∃ (a_11 : KS), Qf a_11 a_9 a /\ WN a a_11 a_7 else ∃ (a_9 : KS), Qf a_9
 a_7 a /\ WN a a_9 a_7) /\ ∀ (a_9 : KS), WN a a_9 a_7 -> tI a_9 /\ (((a_9.x.ms.length = a_9.x.ms.length /\ ((0 : Nat) < a_9.x.ms.length -> rP)) /\ oH /\ OO /\ XD a_9 <=
 (9223372036854775807 : Nat) /\ XD a_9 * (16 : Nat) <= (140737488355328 : Nat)) /\ ((a_9.x.t.length = a_9.x.t.length /\ ((0 : Nat) < a_9.x.t.length -> Eo)) /\ Du /\ OO /\ VK a_9 <=
 (9223372036854775807 : Nat) /\ VK a_9 * (8 : Nat) <= (140737488355328 : Nat)) /\ gW a a_9 /\ rK a a_9 /\ Ld a_9 /\ Ss a_9 /\ Pq a_9 /\ Nq a_9 /\ Ph a_9 /\
 (a_9.x.st.length = a_9.x.st.length /\ ((0 : Nat) < a_9.x.st.length -> Eo)) /\ Du /\ OO /\ VL a_9 <= (9223372036854775807 : Nat) /\ VL a_9 * (8 : Nat) <= (140737488355328 : Nat)) /\ ∃
 (a_11 : KS), (false = false /\ a_11.x.pl = a_9.x.pl /\ a_11.x.tm = a_9.x.tm /\ Nr a_11 a_9 /\ Vf a_11 a_9 a /\ Ug a_11 a_9 a /\ Wa a_11 a_9 a /\ Lu a_11 a_9 a /\ AF /\
 AF /\ AF /\ AF /\ AF /\ AA /\ AD /\ AA /\ AD /\ AA /\ AD /\ AA /\ AD /\ AA /\ AD /\ GH a.s = GH a.s /\ JT a.s = JT a.s
 /\ LB a.s = LB a.s /\ IZ a.s = IZ a.s /\ HI a.s = HI a.s /\ AA /\ Mf a_11 a_9 /\ AA /\ AD /\ AA /\ Py a_11 a_9 /\ AA /\ Kh a_11 a_9 /\ AA /\ AD
 /\ Mf a_11 a_9 /\ (∀ (i : Nat), i < a_11.x.ms.length -> ((gD a_11.x.ms i).pl = bif Ub i a_9 then (gD a_9.x.ms i).pl else a_9.x.pl) /\ (gD a_11.x.ms i).ht = bif Ub i a_9 then (gD a_9.x.ms i).ht else
 Jc a_9) /\ Py a_11 a_9 /\ (∀ (i : Nat), i < a_11.x.t.length -> gD a_11.x.t i = bif decide (i < a_9.x.t.length) then gD a_9.x.t i else a_9.x.tm) /\ Kh a_11 a_9 /\ ∀ (i : Nat), i < a_11.x.st.length ->
 gD a_11.x.st i = bif decide (i < a_9.x.st.length) then gD a_9.x.st i else Nm a_9 a) /\ WV a a_11 /\ KD a_11 < KD a_7 else ∃ (a_9 : One), (Qx a a_7 /\ Ti a a_7 /\
 Lr a a_7 /\ Ka a a_7 /\ AF /\ AF /\ AF /\ AF /\ AF /\ AA /\ AD /\ AA /\ AD /\ AA /\ AD /\ AA /\ AD /\ AA
 /\ AD /\ GH a.s = GH a.s /\ JT a.s = JT a.s /\ LB a.s = LB a.s /\ IZ a.s = IZ a.s /\ HI a.s = HI a.s /\ (mS a).ms.length = a_7.x.ms.length /\ (0 : Nat) + a_7.x.ms.length <= a_7.x.ms.length /\ (∀ (j : Nat), j <
 (mS a).ms.length -> (gD (mS a).ms j).pl = (Me a_7 j).pl /\ (gD (mS a).ms j).ht = (Me a_7 j).ht) /\ AA /\ AD /\ (mS a).t.length = a_7.x.t.length /\ (0 : Nat) + a_7.x.t.length <= a_7.x.t.length /\
 (∀ (j : Nat), j < (mS a).t.length -> gD (mS a).t j = gD a_7.x.t (OR j)) /\ (mS a).st.length = a_7.x.st.length /\ (0 : Nat) + a_7.x.st.length <= a_7.x.st.length /\ (∀ (j : Nat), j < (mS a).st.length -> gD (mS a).st j =
 gD a_7.x.st (OR j)) /\ Lw a) /\ EN a) /\ ∀ (a_7 : One), EN a -> ((∃ (a_9 : KN), ((↑a_9.i : Int) = (0 : Int) /\ a_9.x.s.bs.length = (mS a).s.bs.length /\ (∀ (i : Nat), HO i a_9 -> gD
 a_9.x.s.bs i = gD (mS a).s.bs i) /\ a_9.x.s.used = (mS a).s.used /\ a_9.x.s.mix = (mS a).s.mix /\ ID a) /\ WY a a_9) /\ (∀ (a_9 : KN), WY a a_9 -> bif bif Rk a_9 a then decide ((↑(0 : Nat) :
 Int) < (20 : Int)) else false then ((Mv a_9 /\ ∃ (a_11 : KNb), (Kb a_11 a_9 /\ Vl a_11 a_9 /\ Qh a_11 a_9 /\ Oe a_11 a_9 /\ Rv a_11 a_9 /\ Pe a_11 a_9 /\
 ID a) /\ Rs a a_11 a_9) /\ ∀ (a_11 : KNb), Rs a a_11 a_9 -> bif a_11.b then (PE a_11 a /\ PB /\ Sr a_11 /\ Uz a_11 /\ Ku a_11 /\ Pa a_11 /\
 Qw a_11 /\ PE a_11 a /\ PB /\ Oa a_11 /\ Lq a_11 /\ Sa a_11 /\ Ut a_11 /\ Tn a_11 /\ OP a_11 a /\ NO /\ Jn a_11 /\ Vh a_11 /\
 Nn a_11 /\ Pp a_11 /\ Vm a_11 /\ OP a_11 a /\ NO /\ Kp a_11 /\ Pj a_11 /\ Vz a_11 /\ Vc a_11 /\ Qp a_11 /\ (True /\ (Ik -> (0 : Nat) =
 (5 : Nat))) /\ Ri /\ Do /\ Ht /\ (40 : Nat) <= (140737488355328 : Nat)) /\ ∃ (a_13 : KN), (OQ a_13 a_11 /\ Tp a_13 a_11 /\ Kt a_13 a_11 /\ Qb a_13 a_11 /\ Wc
 a_13 a_11 /\ AF /\ AF /\ AF /\ AF /\ AF /\ AA /\ AD /\ AA /\ AD /\ AA /\ AD /\ AA /\ AD /\ AA /\ AD /\ GH a.s = GH
 a.s /\ JT a.s = JT a.s /\ LB a.s = LB a.s /\ IZ a.s = IZ a.s /\ HI a.s = HI a.s /\ EG a /\ EH a /\ AA /\ Ot a_13 /\ EI a /\ EJ a /\ EL a /\ EO a /\
 EK a /\ EF a /\ Ot a_13 /\ ∀ (i : Nat), i < a_13.x.ns.length -> (gD a_13.x.ns i).mi = (↑a_11.i : Int) /\ (gD a_13.x.ns i).t.lo = Ni a a_11 /\ (gD a_13.x.ns i).t.hi = Rt a a_11 /\ (gD
 a_13.x.ns i).s.lo = Jm a a_11 /\ (gD a_13.x.ns i).s.hi = Up a a_11) /\ OK a a_13 a_9 else ∃ (a_13 : KN), (OQ a_13 a_11 /\ Sz a_13 a_11 /\ Mr a_13 a_11 /\ Oo a_13
 a_11 /\ Wh a_13 a_11 /\ ID a) /\ Ny a a_13 a_9) /\ (∀ (a_11 : KN), Ny a a_11 a_9 -> ∃ (a_13 : KN), (Ue a_13 a_11 /\ Rg a_13 a_11 /\ Tx a_13 a_11 /\ Ux a_13
 a_11 /\ Wq a_13 a_11 /\ ID a) /\ WY a a_13 /\ Nj a_13 a_9) /\ VN a a_9 else ∃ (a_11 : One), (Vv a a_9 /\ Pc a a_9 /\ Li a a_9 /\ Jk a a_9 /\
 ID a) /\ Qq a) /\ ∀ (a_9 : KN), Mg a a_9 -> bif bif Rk a_9 a then decide ((↑a_9.x.ns.length : Int) < (20 : Int)) else false then ((Mv a_9 /\ ∃ (a_11 : KNb), (Kb a_11 a_9
 /\ Vl a_11 a_9 /\ Qh a_11 a_9 /\ Oe a_11 a_9 /\ Rv a_11 a_9 /\ Pe a_11 a_9 /\ AF /\ AF /\ AF /\ AF /\ AF /\ AA /\ AD /\ AA /\
 AD /\ AA /\ AD /\ AA /\ AD /\ AA /\ AD /\ GH a.s = GH a.s /\ JT a.s = JT a.s /\ LB a.s = LB a.s /\ IZ a.s = IZ a.s /\ HI a.s = HI a.s /\ EG a /\ EH a
 /\ AA /\ Jt a_11 a_9 /\ EI a /\ EJ a /\ EL a /\ EO a /\ EK a /\ EF a /\ Jt a_11 a_9 /\ ∀ (i : Nat), i < a_11.x.ns.length -> (gD a_11.x.ns i).mi = (gD
 a_9.x.ns i).mi /\ (gD a_11.x.ns i).t.lo = (gD a_9.x.ns i).t.lo /\ (gD a_11.x.ns i).t.hi = (gD a_9.x.ns i).t.hi /\ (gD a_11.x.ns i).s.lo = (gD a_9.x.ns i).s.lo /\ (gD a_11.x.ns i).s.hi = (gD a_9.x.ns i).s.hi) /\ Rn a
 a_11 a_9) /\ ∀ (a_11 : KNb), Rn a a_11 a_9 -> bif a_11.b then (PE a_11 a /\ PB /\ Sr a_11 /\ Uz a_11 /\ Ku a_11 /\ Pa a_11 /\ Qw a_11 /\ PE a_11 a /\
 PB /\ Oa a_11 /\ Lq a_11 /\ Sa a_11 /\ Ut a_11 /\ Tn a_11 /\ OP a_11 a /\ NO /\ Jn a_11 /\ Vh a_11 /\ Nn a_11 /\ Pp a_11 /\
 Vm a_11 /\ OP a_11 a /\ NO /\ Kp a_11 /\ Pj a_11 /\ Vz a_11 /\ Vc a_11 /\ Qp a_11 /\ (a_11.x.ns.length = a_11.x.ns.length /\ ((0 : Nat) < a_11.x.ns.length ->
 Uj)) /\ Ri /\ OO /\ WH a_11 <= (9223372036854775807 : Nat) /\ WH a_11 * (40 : Nat) <= (140737488355328 : Nat)) /\ ∃ (a_13 : KN), (OQ a_13 a_11 /\ Tp a_13 a_11 /\
 Kt a_13 a_11 /\ Qb a_13 a_11 /\ Wc a_13 a_11 /\ AF /\ AF /\ AF /\ AF /\ AF /\ AA /\ AD /\ AA /\ AD /\ AA /\ AD /\
 AA /\ AD /\ AA /\ AD /\ GH a.s = GH a.s /\ JT a.s = JT a.s /\ LB a.s = LB a.s /\ IZ a.s = IZ a.s /\ HI a.s = HI a.s /\ EG a /\ EH a /\ AA /\ Vs a_13 a_11 /\
 EI a /\ EJ a /\ EL a /\ EO a /\ EK a /\ EF a /\ Vs a_13 a_11 /\ ∀ (i : Nat), i < a_13.x.ns.length -> ((gD a_13.x.ns i).mi = bif JZ i a_11 then (gD a_11.x.ns
 i).mi else (↑a_11.i : Int)) /\ ((gD a_13.x.ns i).t.lo = bif JZ i a_11 then (gD a_11.x.ns i).t.lo else Ni a a_11) /\ ((gD a_13.x.ns i).t.hi = bif JZ i a_11 then (gD a_11.x.ns i).t.hi else
 Rt a a_11) /\ ((gD a_13.x.ns i).s.lo = bif JZ i a_11 then (gD a_11.x.ns i).s.lo else Jm a a_11) /\ (gD a_13.x.ns i).s.hi = bif JZ i a_11 then (gD a_11.x.ns i).s.hi else Up a
 a_11) /\ OK a a_13 a_9 else ∃ (a_13 : KN), (OQ a_13 a_11 /\ Sz a_13 a_11 /\ Mr a_13 a_11 /\ Oo a_13 a_11 /\ Wh a_13 a_11 /\ AF /\ AF /\ AF /\
 AF /\ AF /\ AA /\ AD /\ AA /\ AD /\ AA /\ AD /\ AA /\ AD /\ AA /\ AD /\ GH a.s = GH a.s /\ JT a.s = JT a.s /\ LB a.s = LB a.s /\ IZ
 a.s = IZ a.s /\ HI a.s = HI a.s /\ EG a /\ EH a /\ AA /\ Ns a_13 a_11 /\ EI a /\ EJ a /\ EL a /\ EO a /\ EK a /\ EF a /\ Ns a_13
 a_11 /\ ∀ (i : Nat), i < a_13.x.ns.length -> (gD a_13.x.ns i).mi = (gD a_11.x.ns i).mi /\ (gD a_13.x.ns i).t.lo = (gD a_11.x.ns i).t.lo /\ (gD a_13.x.ns i).t.hi = (gD a_11.x.ns i).t.hi /\ (gD a_13.x.ns i).s.lo = (gD a_11.x.ns
 i).s.lo /\ (gD a_13.x.ns i).s.hi = (gD a_11.x.ns i).s.hi) /\ OK a a_13 a_9) /\ VN a a_9 /\ VN a a_9 else ∃ (a_11 : One), (Vv a a_9 /\ Pc a a_9 /\ Li a a_9 /\ Jk a
 a_9 /\ AF /\ AF /\ AF /\ AF /\ AF /\ AA /\ AD /\ AA /\ AD /\ AA /\ AD /\ AA /\ AD /\ AA /\ AD /\ GH a.s = GH a.s /\
 JT a.s = JT a.s /\ LB a.s = LB a.s /\ IZ a.s = IZ a.s /\ HI a.s = HI a.s /\ EG a /\ EH a /\ AA /\ Mm a a_9 /\ EI a /\ EJ a /\ EL a /\ EO a /\ EK
 a /\ EF a /\ Mm a a_9 /\ ∀ (i : Nat), i < (KA a).ns.length -> (gD (KA a).ns i).mi = (gD a_9.x.ns i).mi /\ (gD (KA a).ns i).t.lo = (gD a_9.x.ns i).t.lo /\ (gD (KA a).ns i).t.hi = (gD a_9.x.ns i).t.hi /\ (gD
 (KA a).ns i).s.lo = (gD a_9.x.ns i).s.lo /\ (gD (KA a).ns i).s.hi = (gD a_9.x.ns i).s.hi) /\ Rz a) /\ (∀ (a_9 : One), Qq a -> (∃ (a_11 : One), (Int.negSucc (0 : Nat) = Int.negSucc (0 : Nat) /\ (mE
 a).s.bs.length = (KA a).s.bs.length /\ (∀ (i : Nat), WT i a -> gD (mE a).s.bs i = gD (KA a).s.bs i) /\ (mE a).s.used = (KA a).s.used /\ (mE a).s.mix = (KA a).s.mix /\ ID a) /\ (mE a).ns = []) /\ ∀ (a_11 :
 One), (mE a).ns = [] -> (HG a).p.lo = GH a.s /\ (HG a).p.hi = JT a.s /\ (HG a).base = LB a.s /\ (HG a).scale = IZ a.s /\ (HG a).off = HI a.s /\ Lb a /\ Mp a /\ Mz a /\ Mz a /\
 Mn a /\ Qk a /\ Mw a /\ Jw a /\ Kq a /\ Wj a /\ (mE a).s.bs.length = (mE a).s.bs.length /\ (∀ (i : Nat), WT i a -> gD (mE a).s.bs i = gD (mE a).s.bs i) /\ (mE
 a).s.used = (mE a).s.used /\ (mE a).s.mix = (mE a).s.mix) /\ ∀ (a_9 : One), Rz a -> (∃ (a_11 : KN), ((↑a_11.i : Int) = IntKind.i64.wrap ((↑(KA a).ns.length : Int) - (1 : Int)) /\ a_11.x.s.bs.length = (KA
 a).s.bs.length /\ (∀ (i : Nat), HO i a_11 -> gD a_11.x.s.bs i = gD (KA a).s.bs i) /\ a_11.x.s.used = (KA a).s.used /\ a_11.x.s.mix = (KA a).s.mix /\ AF /\ AF /\ AF /\ AF /\ AF /\
 AA /\ AD /\ AA /\ AD /\ AA /\ AD /\ AA /\ AD /\ AA /\ AD /\ GH a.s = GH a.s /\ JT a.s = JT a.s /\ LB a.s = LB a.s /\ IZ a.s = IZ a.s /\ HI a.s =
 HI a.s /\ EG a /\ EH a /\ AA /\ Xa a_11 a /\ EI a /\ EJ a /\ EL a /\ EO a /\ EK a /\ EF a /\ Xa a_11 a /\ ∀ (i : Nat), i <
 a_11.x.ns.length -> (gD a_11.x.ns i).mi = (gD (KA a).ns i).mi /\ (gD a_11.x.ns i).t.lo = (gD (KA a).ns i).t.lo /\ (gD a_11.x.ns i).t.hi = (gD (KA a).ns i).t.hi /\ (gD a_11.x.ns i).s.lo = (gD (KA a).ns i).s.lo /\ (gD
 a_11.x.ns i).s.hi = (gD (KA a).ns i).s.hi) /\ VA a a_11) /\ ∀ (a_11 : KN), VA a a_11 -> bif decide ((↑a_11.i : Int) > (0 : Int)) then (KC a_11 = KC a_11 /\ Vw a_11) /\
 (Lc a_11 /\ PF a_11 < a_11.x.ns.length /\ Nb a_11 /\ Ow a_11 /\ Nb a_11 /\ Ow a_11 /\ Lc a_11 /\ (PF a_11).succ.le a_11.x.ns.length) /\ ∃ (a_13 : KN),
 ((↑a_13.i : Int) = IntKind.i64.wrap ((↑a_11.i : Int) - (1 : Int)) /\ a_13.x.s.bs.length = (Nk a_11).length /\ (∀ (i : Nat), HO i a_13 -> gD a_13.x.s.bs i = gD (Nk a_11) i) /\ a_13.x.s.used =
 (VX a_11).used /\ a_13.x.s.mix = (VX a_11).mix /\ AF /\ AF /\ AF /\ AF /\ AF /\ AA /\ AD /\ AA /\ AD /\ AA /\ AD /\ AA
 /\ AD /\ AA /\ AD /\ GH a.s = GH a.s /\ JT a.s = JT a.s /\ LB a.s = LB a.s /\ IZ a.s = IZ a.s /\ HI a.s = HI a.s /\ EG a /\ EH a /\ AA /\ OG a_13 a_11 /\
 EI a /\ EJ a /\ EL a /\ EO a /\ EK a /\ EF a /\ OG a_13 a_11 /\ ∀ (i : Nat), i < a_13.x.ns.length -> ((gD a_13.x.ns i).mi = bif KF i a_11 then (WS
 a_11).mi else bif JX i a_11 then (XG a_11).mi else (gD a_11.x.ns i).mi) /\ ((gD a_13.x.ns i).t.lo = bif KF i a_11 then (Sb a_11).lo else bif JX i a_11 then (Pm
 a_11).lo else (gD a_11.x.ns i).t.lo) /\ ((gD a_13.x.ns i).t.hi = bif KF i a_11 then (Sb a_11).hi else bif JX i a_11 then (Pm a_11).hi else (gD a_11.x.ns i).t.hi) /\ ((gD a_13.x.ns
 i).s.lo = bif KF i a_11 then (Nh a_11).lo else bif JX i a_11 then (Ou a_11).lo else (gD a_11.x.ns i).s.lo) /\ (gD a_13.x.ns i).s.hi = bif KF i a_11 then (Nh a_11).hi
 else bif JX i a_11 then (Ou a_11).hi else (gD a_11.x.ns i).s.hi) /\ VA a a_13 /\ a_13.i < a_11.i else (HG a).p.lo = GH a.s /\ (HG a).p.hi = JT a.s /\ (HG a).base = LB a.s /\ (HG a).scale =
 IZ a.s /\ (HG a).off = HI a.s /\ Lb a /\ Mp a /\ (HG a).ns.length = a_11.x.ns.length /\ (0 : Nat) + a_11.x.ns.length <= a_11.x.ns.length /\ (∀ (j : Nat), j < (HG a).ns.length -> (gD (HG a).ns j).mi =
 (UX a_11 j).mi /\ (gD (HG a).ns j).t.lo = (Vt a_11 j).lo /\ (gD (HG a).ns j).t.hi = (Vt a_11 j).hi /\ (gD (HG a).ns j).s.lo = (Th a_11 j).lo /\ (gD (HG a).ns j).s.hi = (Th
 a_11 j).hi) /\ Mn a /\ Qk a /\ Mw a /\ Jw a /\ Kq a /\ Wj a /\ (mE a).s.bs.length = a_11.x.s.bs.length /\ (∀ (i : Nat), WT i a -> gD (mE a).s.bs i = gD a_11.x.s.bs i)
 /\ (mE a).s.used = a_11.x.s.used /\ (mE a).s.mix = a_11.x.s.mix) := by kernel_rfl
end Go.Bal
