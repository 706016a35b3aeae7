/- Package chart: charts and truths that are made of numbers. -/
import Derived.Test.YtdbjalgfomknhaaChV
set_option linter.unusedVariables false
set_option linter.unusedSimpArgs false
namespace Go.Bal
open Go Go.Sym Go.Proofs
structure MkI where
 s : Stm
 m : Int
 b : Bool
def dMkI (b : Bool) : List AVal -> Heap -> Option (MkI × List (Nat × Nat) × List Nat)
 | [.bptr p _, .d (.v (.int _ n)), .d (.v (.bool c))], H => match c == b, CBR H p with
  | true, some s => some (⟨s, n, b⟩, [(100, p)], [])
  | _, _ => none
 | _, _ => none
def gS1 (s : Stm) : Stm := KM s 1 12
def gS2 (s : Stm) : Stm := KM (gS1 s) (-50) 400
def gS3 (s : Stm) : Stm := BB (gS2 s) 12
def gS4 (s : Stm) : Stm := BB (gS3 s) 9
def gS5 (s : Stm) : Stm := BB (gS4 s) 6
def gS6 (s : Stm) : Stm := BB (gS5 s) 300
def GG (s : Stm) : Int := SK s 1 12
def JR (s : Stm) : Int := wr (GG s + AQ (gS4 s) 6)
def KY (s : Stm) : Int := SK (gS1 s) (-50) 400
def IX (s : Stm) : Int := AQ (gS2 s) 12
def HF (s : Stm) : Int := AQ (gS3 s) 9
def hTm (s : Stm) : Int := AQ (gS5 s) 300
structure MS where
 s : Stm
 pl : Int
 tm : Int
 ms : List Mk
 t : List Int
 st : List Int
 z : List Int
 deriving Inhabited
def HK (x : MS) : Int := SK x.s 1 30
def advA (a : MkI) (x : MS) : MS := ⟨KM (KM x.s 1 30) (wr (GG a.s * HK x)) (wr (JR a.s * HK x)), wr (x.pl + HK x), wr (x.tm + SK (KM x.s 1 30) (wr (GG a.s * HK x)) (wr (JR a.s * HK x))), x.ms, x.t, x.st, x.z⟩
def advZ (a : MkI) (x : MS) : MS := bif a.b then bif AQ x.s 5 == 0 then ⟨BB (BB x.s 5) 400, x.pl, wr (x.tm + AQ (BB x.s 5) 400), x.ms, x.t, x.st, x.z ++ [wr ((x.ms.length : Int) - 1)]⟩ else ⟨BB x.s 5, x.pl, x.tm, x.ms, x.t, x.st, x.z⟩ else x
def yAt (a : MkI) (x : MS) : Int := wr (KY a.s + wr (IX a.s * AQ x.s 60))
def addM (a : MkI) (x : MS) : MS := ⟨KM (BB x.s 60) (wr (yAt a x - HF a.s)) (wr (yAt a x + HF a.s)), x.pl, x.tm, x.ms ++ [⟨x.pl, AQ x.s 60⟩], x.t ++ [x.tm], x.st ++ [SK (BB x.s 60) (wr (yAt a x - HF a.s)) (wr (yAt a x + HF a.s))], x.z⟩
def goM (a : MkI) (x : MS) : MS := bif decide (0 < x.ms.length) then advZ a (advA a x) else x
def stpC (a : MkI) (x : MS) : MS := addM a (goM a x)
def Ix (a : MkI) : Nat -> MS -> MS
 | 0, x => x
 | n + 1, x => Ix a n (stpC a x)
def mS0 (a : MkI) : MS := ⟨KM (gS6 a.s) 1 a.m, 0, hTm a.s, [], [], [], []⟩
def mN (a : MkI) : Nat := (SK (gS6 a.s) 1 a.m).toNat
def mS (a : MkI) : MS := Ix a (mN a) (mS0 a)
structure NSt where
 s : Stm
 ns : List Nt
 deriving Inhabited
def nS2 (s : Stm) : Stm := BB s 40
def nS3 (s : Stm) : Stm := BB (nS2 s) 40
def nS4 (s : Stm) : Stm := BB (nS3 s) 9
def nS5 (s : Stm) : Stm := BB (nS4 s) 9
def mkNt (a : MkI) (s : Stm) (i : Nat) : Nt := ⟨i, ⟨DJ 0 (wr (gD (mS a).t i - AQ s 40)), wr (gD (mS a).t i + AQ (nS2 s) 40)⟩, ⟨wr (gD (mS a).st i - AQ (nS3 s) 9), wr (gD (mS a).st i + AQ (nS4 s) 9)⟩⟩
def addN (a : MkI) (b : Bool) (i : Nat) (x : NSt) : NSt := bif b then ⟨nS5 x.s, x.ns ++ [mkNt a x.s i]⟩ else x
def stpN (a : MkI) (i : Nat) (x : NSt) : NSt := addN a (AQ x.s 2 == 0) i ⟨BB x.s 2, x.ns⟩
def mkN (a : MkI) : Nat -> Nat -> NSt -> NSt
 | 0, _, x => x
 | n + 1, i, x => mkN a n (i + 1) (stpN a i x)
def KA (a : MkI) : NSt := mkN a (mS a).ms.length 0 ⟨(mS a).s, []⟩
def swN (l : List Nt) (i k : Nat) : List Nt := (l.set i (gD l k)).set k (gD l i)
def shK : Nat -> NSt -> NSt
 | 0, x => x
 | j + 1, x => shK j ⟨BB x.s ((j : Int) + 2), swN x.ns (j + 1) (AQ x.s ((j : Int) + 2)).toNat⟩
def mE (a : MkI) : NSt := shK ((KA a).ns.length - 1) (KA a)
def HC (a : MkI) : Cht := ⟨⟨GG a.s, JR a.s⟩, KY a.s, IX a.s, HF a.s, (mS a).ms, (mE a).ns⟩
def sX (a : MkI) : Tru := ⟨(mS a).t, (mS a).st, (mS a).z⟩
structure KS where
 k : Nat
 x : MS
 deriving Inhabited
structure KN where
 i : Nat
 x : NSt
 deriving Inhabited
def preM (a : MkI) : Prop := StmB 0 a.s /\ 1 <= a.m /\ a.m <= 14
def rowM (l : List Mk) : AObj := .row 2 l.length λ i => eMk (gD l i)
def rowN (l : List Nt) : AObj := .row 5 l.length λ i => eNt (gD l i)
def zCh : HCell := .live (.box [.int 0, .int 0, .int 0, .int 0, .int 0, .d GA, .d GA])
def zTr : HCell := .live (.box [.d GA, .d GA, .d GA])
def chC (a : MkI) (m n : AVal) : HCell := .live (.box [.int (GG a.s), .int (JR a.s), .int (KY a.s), .int (IX a.s), .int (HF a.s), m, n])
def trC (t s z : AVal) : HCell := .live (.box [t, s, z])
def mdP : List (Nat × AVal) := [(0, .bptr 100 0), (6, .bptr 1000 0), (7, .bptr 1016 0), (8, .bptr 2160 0), (9, .bptr 4000 0)]
def mdS (b : Bool) (y : KS) : List (Nat × AVal) := mdP ++ [(2, .bool b), (10, .int y.x.pl), (11, .int y.x.tm), (12, .int y.k)]
def inv6 (a : MkI) (y : KS) : Prop := Ix a y.k y.x = mS a /\ (y.k : Int) <= a.m /\ StmB (7 + 7 * (a.m - y.k)) y.x.s /\ ((y.x.ms.length : Int) + y.k <= a.m /\ y.x.t.length = y.x.ms.length /\ y.x.st.length = y.x.ms.length /\ (y.x.z = [] ∨ y.x.z.length + 1 <= y.x.ms.length))
def mdO (y : KS) : List (Nat × HCell) := [(301, .live (rowM y.x.ms)), (302, .live (rowI y.x.t)), (303, .live (rowI y.x.st))]
def ownM (y : KS) : AVal := .own 301 2 0 y.x.ms.length
def ownT (y : KS) (z : AVal) : HCell := trC (.own 302 1 0 y.x.t.length) (.own 303 1 0 y.x.st.length) z
def hpN (a : MkI) (y : KS) : List (Nat × HCell) := [(100, stmH y.x.s), (1000, zCh), (1016, zTr), (2160, chC a (.d GA) (.d GA)), (4000, zTr)]
def hpO (a : MkI) (y : KS) : List (Nat × HCell) := [(100, stmH y.x.s), (1000, zCh), (1016, zTr), (2160, chC a (ownM y) (.d GA)), (4000, ownT y (.d GA))] ++ mdO y
def hpP (a : MkI) (y : KS) : List (Nat × HCell) := [(100, stmH y.x.s), (1000, zCh), (1016, zTr), (2160, chC a (ownM y) (.d GA)), (4000, ownT y (.own 304 1 0 y.x.z.length))] ++ mdO y ++ [(304, .live (rowI y.x.z))]
def md6n (b : Bool) (a : MkI) : Shape := { α := KS, dflt := default, T := λ y => ⟨mdS b y, hpN a y⟩, inv := λ y => inv6 a y /\ 1 <= y.k /\ y.x.ms = [] /\ y.x.z = [], meas := λ y => 100, tag := [0] }
def md6o (b : Bool) (a : MkI) : Shape := { α := KS, dflt := default, T := λ y => ⟨mdS b y, hpO a y⟩, inv := λ y => inv6 a y /\ 1 <= y.x.ms.length /\ y.x.z = [], meas := λ y => y.k + 20, again := [(301, 18064), (302, 18144), (303, 18368)], tag := [1] }
def md6p (b : Bool) (a : MkI) : Shape := { α := KS, dflt := default, T := λ y => ⟨mdS b y, hpP a y⟩, inv := λ y => inv6 a y /\ 1 <= y.x.ms.length /\ 1 <= y.x.z.length, meas := λ y => y.k, again := [(301, 18064), (302, 18144), (303, 18368)], tag := [2] }
def CKO (a : MkI) (y : KS) : Prop := Ix a (y.k - 1) (addM a y.x) = mS a /\ (1 <= y.k /\ (y.k : Int) <= a.m) /\ StmB (11 + 7 * (a.m - y.k)) y.x.s /\ ((y.x.ms.length : Int) + y.k <= a.m /\ y.x.t.length = y.x.ms.length /\ y.x.st.length = y.x.ms.length /\ y.x.z.length <= y.x.ms.length)
def c15n (b : Bool) (a : MkI) (m : Nat) : Shape := { α := KS, dflt := default, T := λ y => ⟨mdS b y, hpN a y⟩, inv := λ y => CKO a y /\ m = 100 /\ y.x.ms = [] /\ y.x.z = [], meas := λ _ => 0 }
def c15o (b : Bool) (a : MkI) (m : Nat) : Shape := { α := KS, dflt := default, T := λ y => ⟨mdS b y, hpO a y⟩, inv := λ y => CKO a y /\ y.k + 20 <= m /\ 1 <= y.x.ms.length /\ y.x.z = [], meas := λ _ => 0 }
def c15p (b : Bool) (a : MkI) (m : Nat) (f : List (Nat × Nat)) : Shape := { α := KS, dflt := default, T := λ y => ⟨mdS b y, hpP a y⟩, inv := λ y => CKO a y /\ y.k <= m /\ 1 <= y.x.ms.length /\ 1 <= y.x.z.length, meas := λ _ => 0, first := f }
def c15 (b : Bool) (a : MkI) (m : Nat) : Nat -> List Shape
 | 0 => [c15n b a m]
 | 1 => bif b then [c15o b a m, c15p b a m [(304, 14112)]] else [c15o b a m]
 | _ => [c15p b a m [(304, 14112)], c15p b a m []]
def mdH (a : MkI) (s : Stm) (n : AVal) : List (Nat × HCell) := [(100, stmH s), (1000, zCh), (1016, zTr), (2160, chC a (.d (eMks (mS a).ms)) n), (4000, trC (.d (DI (mS a).t)) (.d (DI (mS a).st)) (.d (DI (mS a).z)))]
def fin6 (a : MkI) : Prop := inv6 a ⟨0, mS a⟩
def md18 (a : MkI) (z : List Nat) : Shape := { α := One, dflt := default, T := λ _ => ⟨mdP, mdH a (mS a).s (.d GA)⟩, inv := λ _ => fin6 a, meas := λ _ => 0, ffz := z }
def CRU (a : MkI) (y : KN) : Prop := fin6 a /\ y.i <= (mS a).ms.length /\ StmB (7 + 7 * a.m + 5 * y.i) y.x.s /\ mkN a ((mS a).ms.length - y.i) y.i y.x = KA a /\ y.x.ns.length <= y.i
def CZO (a : MkI) : Shape := { α := KN, dflt := default, T := λ y => ⟨mdP ++ [(16, .int y.i)], mdH a y.x.s (.d GA)⟩, inv := λ y => CRU a y /\ y.x.ns = [], meas := λ y => 100 - y.i, tag := [0] }
def DAT (a : MkI) : Shape := { α := KN, dflt := default, T := λ y => ⟨mdP ++ [(16, .int y.i)], mdH a y.x.s (.own 305 5 0 y.x.ns.length) ++ [(305, .live (rowN y.x.ns))]⟩, inv := λ y => CRU a y /\ 1 <= y.x.ns.length, meas := λ y => 100 - y.i, tag := [1] }
structure KNb where
 i : Nat
 x : NSt
 b : Bool
 deriving Inhabited
def CUM (a : MkI) (m : Nat) (y : KNb) : Prop := fin6 a /\ (y.i < (mS a).ms.length /\ 100 - y.i = m) /\ StmB (8 + 7 * a.m + 5 * y.i) y.x.s /\ mkN a ((mS a).ms.length - (y.i + 1)) (y.i + 1) (addN a y.b y.i y.x) = KA a /\ y.x.ns.length <= y.i
def c22n (a : MkI) (m : Nat) : Shape := { α := KNb, dflt := default, T := λ y => ⟨mdP ++ [(16, .int y.i), (142, .bool y.b)], mdH a y.x.s (.d GA)⟩, inv := λ y => CUM a m y /\ y.x.ns = [], meas := λ _ => 0 }
def c22o (a : MkI) (m : Nat) : Shape := { α := KNb, dflt := default, T := λ y => ⟨mdP ++ [(16, .int y.i), (142, .bool y.b)], mdH a y.x.s (.own 305 5 0 y.x.ns.length) ++ [(305, .live (rowN y.x.ns))]⟩, inv := λ y => CUM a m y /\ 1 <= y.x.ns.length, meas := λ _ => 0 }
def CUU (a : MkI) (m : Nat) (y : KN) : Prop := fin6 a /\ (y.i < (mS a).ms.length /\ 100 - y.i = m) /\ StmB (12 + 7 * a.m + 5 * y.i) y.x.s /\ mkN a ((mS a).ms.length - (y.i + 1)) (y.i + 1) y.x = KA a /\ y.x.ns.length <= y.i + 1
def c20n (a : MkI) (m : Nat) : Shape := { α := KN, dflt := default, T := λ y => ⟨mdP ++ [(16, .int y.i)], mdH a y.x.s (.d GA)⟩, inv := λ y => CUU a m y /\ y.x.ns = [], meas := λ _ => 0 }
def c20o (a : MkI) (m : Nat) (f : List (Nat × Nat)) : Shape := { α := KN, dflt := default, T := λ y => ⟨mdP ++ [(16, .int y.i)], mdH a y.x.s (.own 305 5 0 y.x.ns.length) ++ [(305, .live (rowN y.x.ns))]⟩, inv := λ y => CUU a m y /\ 1 <= y.x.ns.length, meas := λ _ => 0, first := f }
def CZP (a : MkI) : Shape := { α := One, dflt := default, T := λ _ => ⟨mdP, mdH a (KA a).s (.d GA)⟩, inv := λ _ => fin6 a /\ (KA a).ns = [], meas := λ _ => 0, tag := [0] }
def DAD (a : MkI) : Shape := { α := One, dflt := default, T := λ _ => ⟨mdP, mdH a (KA a).s (.own 305 5 0 (KA a).ns.length) ++ [(305, .live (rowN (KA a).ns))]⟩, inv := λ _ => fin6 a /\ StmB (7 + 7 * a.m + 5 * a.m) (KA a).s /\ (1 <= (KA a).ns.length /\ ((KA a).ns.length : Int) <= a.m), meas := λ _ => 0, tag := [1] }
def CYE (a : MkI) (y : KN) : Prop := fin6 a /\ y.i < y.x.ns.length /\ StmB (7 + 7 * a.m + 5 * a.m + a.m - y.i) y.x.s /\ shK y.i y.x = mE a /\ (y.x.ns.length : Int) <= a.m
def CYB (a : MkI) : Shape := { α := One, dflt := default, T := λ _ => ⟨mdP ++ [(17, .int (-1))], mdH a (mE a).s (.d GA)⟩, inv := λ y => (mE a).ns = [], meas := λ y => 100 }
def DAC (a : MkI) : Shape := { α := KN, dflt := default, T := λ y => ⟨mdP ++ [(17, .int y.i)], mdH a y.x.s (.own 305 5 0 y.x.ns.length) ++ [(305, .live (rowN y.x.ns))]⟩, inv := λ y => CYE a y, meas := λ y => y.i }
def hdP (b : Bool) (a : MkI) : List (Nat × AVal) := [(0, .bptr 100 0), (1, .int a.m), (2, .bool b), (6, .bptr 1000 0), (7, .bptr 1016 0), (8, .bptr 2160 0)]
def ch2 (b : Bool) (a : MkI) : Shape := { α := One, dflt := default, T := λ _ => ⟨hdP b a, [(100, stmH (gS4 a.s)), (1000, zCh), (1016, zTr), (2160, .live (.box [.int (GG a.s), .int 0, .int (KY a.s), .int (IX a.s), .int (HF a.s), .d GA, .d GA]))]⟩, inv := λ _ => StmB 4 (gS4 a.s), meas := λ _ => 0 }
def ch3 (b : Bool) (a : MkI) : Shape := { α := One, dflt := default, T := λ _ => ⟨hdP b a, [(100, stmH (gS5 a.s)), (1000, zCh), (1016, zTr), (2160, chC a (.d GA) (.d GA))]⟩, inv := λ _ => StmB 5 (gS5 a.s), meas := λ _ => 0 }
def ch5 (b : Bool) (a : MkI) : Shape := { α := One, dflt := default, T := λ _ => ⟨hdP b a ++ [(9, .bptr 4000 0), (10, .int 0), (11, .int (hTm a.s))], [(100, stmH (gS6 a.s)), (1000, zCh), (1016, zTr), (2160, chC a (.d GA) (.d GA)), (4000, zTr)]⟩, inv := λ _ => StmB 6 (gS6 a.s), meas := λ _ => 0 }
def CSY (a : MkI) (y : KS) : Prop := Ix a (y.k - 1) (addM a (advZ a y.x)) = mS a /\ (1 <= y.k /\ (y.k : Int) <= a.m) /\ StmB (9 + 7 * (a.m - y.k)) y.x.s /\ ((y.x.ms.length : Int) + y.k <= a.m /\ y.x.t.length = y.x.ms.length /\ y.x.st.length = y.x.ms.length /\ y.x.z.length + 1 <= y.x.ms.length)
def c12o (b : Bool) (a : MkI) (m : Nat) : Shape := { α := KS, dflt := default, T := λ y => ⟨mdS b y, hpO a y⟩, inv := λ y => CSY a y /\ y.k + 20 <= m /\ 1 <= y.x.ms.length /\ y.x.z = [], meas := λ _ => 0 }
def c12p (b : Bool) (a : MkI) (m : Nat) : Shape := { α := KS, dflt := default, T := λ y => ⟨mdS b y, hpP a y⟩, inv := λ y => CSY a y /\ y.k <= m /\ 1 <= y.x.ms.length /\ 1 <= y.x.z.length, meas := λ _ => 0 }
def kE (b : Bool) : Ctr := { α := MkI, xs := λ a => [.bptr 100 0, .int a.m, .bool b], L := λ a => [(100, stmO a.s)], val := λ a => .tup [.d (XX (HC a)), .d (eTru (sX a))], keep := λ a => [(100, stmH (mE a).s)], pre := λ a => [preM a /\ a.b = b] }
def CHN (b : Bool) (a : MkI) : Ann := { ann 217 [(BQN, C_Next.spec BYS), (ASC, C_Within.spec BVX)] with E := [100], md := λ id => if id = 12 then some (λ k => if k = 2 ∨ k = 3 ∨ k = 4 then (bif b then 8 else 9) else 0) else none, mt := λ id => id == 13 || id == 17 || id == 22, loops := λ id => if id = 6 then (bif b then some [md6n b a, md6o b a, md6p b a] else some [md6n b a, md6o b a]) else if id = 19 then some [CZO a, DAT a] else none, inner := λ gs id => if id = 24 then (if gs.getD 0 0 = 0 then some [CYB a] else some [DAC a]) else none, cut := λ id => if id = 2 then some [ch2 b a] else if id = 3 then some [ch3 b a] else if id = 5 then some [ch5 b a] else if id = 18 then (bif b then some [md18 a [301, 302, 303], md18 a [301, 302, 303, 304]] else some [md18 a [301, 302, 303]]) else if id = 23 then some [CZP a, DAD a] else none, cutIn := λ gs id => if id = 15 then some (c15 b a (gs.getD 0 0) (gs.getD 1 0)) else if id = 12 then (if gs.getD 1 0 = 1 then some [c12o b a (gs.getD 0 0)] else some [c12p b a (gs.getD 0 0)]) else if id = 22 then (if gs.getD 1 0 = 0 then some [c22n a (gs.getD 0 0)] else some [c22o a (gs.getD 0 0)]) else if id = 20 then (if gs.getD 1 0 = 0 then some [c20n a (gs.getD 0 0), c20o a (gs.getD 0 0) [(305, 23640)]] else some [c20o a (gs.getD 0 0) [(305, 23640)], c20o a (gs.getD 0 0) []]) else none }
def CCZ (a : MkI) : Prop := AZ Try.prog (CHN false a) CAP (AL CAP) ((kE false).xs a) (AG ((kE false).L a)) ((kE false).val a) ((kE false).keep a) [] [305]
abbrev dE : Prop := (1 : Int) = Int.ofNat (1 : Nat)
abbrev ACE : Prop := (12 : Int) = Int.ofNat (12 : Nat)
abbrev dK (a : MkI) : List Int := AE a.s.bs.length λ (i : Nat) => gD a.s.bs i
abbrev ADL (a : MkI) : Nat := (dK a).length
abbrev AHE (a : MkI) : Stm := Stm.mk (dK a) a.s.used a.s.mix
abbrev cF (a : MkI) : Stm := KM (AHE a) (1 : Int) (12 : Int)
abbrev X5 (a : MkI) : List Int := (cF a).bs
abbrev AIW (a : MkI) : Nat := (X5 a).length
abbrev AHT (a : MkI) (i : Nat) : Int := gD (X5 a) i
abbrev Xo (a : MkI) : List Int := AE (AIW a) λ (i : Nat) => AHT a i
abbrev hC (a : MkI) : Nat := (Xo a).length
abbrev SF (a : MkI) : Int := (cF a).used
abbrev Gt (a : MkI) : Int := (cF a).mix
abbrev jZ (a : MkI) : Stm := Stm.mk (Xo a) (SF a) (Gt a)
abbrev Ip (a : MkI) : Stm := KM (jZ a) (-50 : Int) (400 : Int)
abbrev qK (a : MkI) : List Int := (Ip a).bs
abbrev qE (a : MkI) : Nat := (qK a).length
abbrev rH (a : MkI) (i : Nat) : Int := gD (qK a) i
abbrev Hq (a : MkI) : List Int := AE (qE a) λ (i : Nat) => rH a i
abbrev pK (a : MkI) : Nat := (Hq a).length
abbrev TW (a : MkI) : Int := (Ip a).used
abbrev Ig (a : MkI) : Int := (Ip a).mix
abbrev LT : Prop := (9 : Int) = Int.ofNat (9 : Nat)
abbrev qT (a : MkI) : Stm := Stm.mk (Hq a) (TW a) (Ig a)
abbrev Ir (a : MkI) : Stm := BB (qT a) (12 : Int)
abbrev iT (a : MkI) : List Int := (Ir a).bs
abbrev gM (a : MkI) : Nat := (iT a).length
abbrev mF (a : MkI) (i : Nat) : Int := gD (iT a) i
abbrev In (a : MkI) : List Int := AE (gM a) λ (i : Nat) => mF a i
abbrev fK (a : MkI) : Nat := (In a).length
abbrev SM (a : MkI) : Int := (Ir a).used
abbrev Ev (a : MkI) : Int := (Ir a).mix
abbrev jW (a : MkI) : Stm := Stm.mk (In a) (SM a) (Ev a)
abbrev De (a : MkI) : Stm := BB (jW a) (9 : Int)
abbrev jG (a : MkI) : List Int := (De a).bs
abbrev AF : Prop := Int.ofNat (0 : Nat) = Int.ofNat (0 : Nat)
abbrev AA : Prop := (0 : Nat) = (0 : Nat)
abbrev AD : Prop := ∀ (i : Nat), i < (0 : Nat) -> false = false
abbrev Gw : Prop := AA /\ AD /\ AA /\ AD
abbrev Hl (a : MkI) : List Int := AE (gS4 a.s).bs.length λ (i : Nat) => gD (gS4 a.s).bs i
abbrev iU (a : MkI) : Nat := (Hl a).length
abbrev qL (a : MkI) : Stm := Stm.mk (Hl a) (gS4 a.s).used (gS4 a.s).mix
abbrev Dc (a : MkI) : Stm := BB (qL a) (6 : Int)
abbrev gR (a : MkI) : List Int := (Dc a).bs
abbrev Ha (a : MkI) : List Int := AE (gS5 a.s).bs.length λ (i : Nat) => gD (gS5 a.s).bs i
abbrev pZ (a : MkI) : Nat := (Ha a).length
abbrev oC (a : MkI) : Stm := Stm.mk (Ha a) (gS5 a.s).used (gS5 a.s).mix
abbrev Fd (a : MkI) : Stm := BB (oC a) (300 : Int)
abbrev oV (a : MkI) : List Int := (Fd a).bs
abbrev Hg (a : MkI) : Prop := AF /\ AF /\ AF /\ AF /\ AF /\ AA /\ AD /\ AA /\ AD /\ AA /\ AD /\ AA /\ AD /\ AA /\
 AD /\ GG a.s = GG a.s /\ JR a.s = JR a.s /\ KY a.s = KY a.s /\ IX a.s = IX a.s /\ HF a.s = HF a.s /\ AA /\ AD /\ AA /\ AD /\ AA /\ AD /\ Gw
abbrev Fq (a : MkI) : List Int := AE (gS6 a.s).bs.length λ (i : Nat) => gD (gS6 a.s).bs i
abbrev fY (a : MkI) : Nat := (Fq a).length
abbrev rM (a : MkI) : Stm := Stm.mk (Fq a) (gS6 a.s).used (gS6 a.s).mix
abbrev Es (a : MkI) : Stm := KM (rM a) (1 : Int) a.m
abbrev lW (a : MkI) : List Int := (Es a).bs
abbrev TU (i : Nat) (a : KS) : Prop := i < a.x.s.bs.length
abbrev mJ (a : KS) (a1 : MkI) : Prop := (↑a.k : Int) <= a1.m
abbrev Hu (a : MkI) (a1 : KS) : Int := (7 : Int) * (a.m - (↑a1.k : Int))
abbrev Dr (a : KS) (a1 : MkI) : Prop := (↑a.x.ms.length : Int) + (↑a.k : Int) <= a1.m
abbrev Gc (a : KS) : Prop := a.x.t.length = a.x.ms.length
abbrev Hk (a : KS) : Prop := a.x.st.length = a.x.ms.length
abbrev kA (a : KS) : Prop := a.x.z.length + (1 : Nat) <= a.x.ms.length
abbrev gF (a : MkI) (a1 : KS) : Prop := Ix a a1.k a1.x = mS a /\ mJ a1 a /\ StmB ((7 : Int) + Hu a a1) a1.x.s /\ Dr a1 a /\ Gc a1 /\ Hk a1 /\ (a1.x.z = [] ∨ kA a1)
abbrev qJ (a : KS) : Prop := (1 : Nat) <= a.k
abbrev kC (a : KS) : Prop := a.x.ms = [] /\ a.x.z = []
abbrev kX (a : MkI) (a1 : KS) : Prop := gF a a1 /\ qJ a1 /\ kC a1
abbrev rG (a : KS) : Bool := decide ((↑a.k : Int) > (0 : Int))
abbrev Gp (a : KS) (a1 : KS) : Prop := (↑a.k : Int) = (↑a1.k : Int)
abbrev qN (a : KS) (a1 : KS) : Prop := a.x.s.bs.length = a1.x.s.bs.length
abbrev rB (a : KS) (a1 : KS) : Prop := ∀ (i : Nat), TU i a -> gD a.x.s.bs i = gD a1.x.s.bs i
abbrev iG (a : KS) (a1 : KS) : Prop := a.x.s.used = a1.x.s.used
abbrev nC (a : KS) (a1 : KS) : Prop := a.x.s.mix = a1.x.s.mix
abbrev kV (a : KS) : Nat := a.k - (1 : Nat)
abbrev mV (a : KS) (a1 : MkI) : Prop := qJ a /\ mJ a a1
abbrev mT (a : MkI) (a1 : KS) : Prop := Ix a (kV a1) (addM a a1.x) = mS a /\ mV a1 a /\ StmB ((11 : Int) + Hu a a1) a1.x.s /\ Dr a1 a /\ Gc a1 /\ Hk a1 /\ a1.x.z.length
 <= a1.x.ms.length
abbrev pF (a : MkI) (a1 : KS) : Prop := mT a a1 /\ (100 : Nat) = (100 : Nat) /\ kC a1
abbrev Ih (a : KS) : List Int := AE a.x.s.bs.length λ (i : Nat) => gD a.x.s.bs i
abbrev iV (a : KS) : Nat := (Ih a).length
abbrev pB (a : KS) : Prop := iV a = a.x.s.bs.length /\ (∀ (i : Nat), i < iV a -> gD (Ih a) i = gD a.x.s.bs i) /\ a.x.s.used = a.x.s.used /\ a.x.s.mix = a.x.s.mix /\ (a.x.s.used - (0 :
 Int)).NonNeg
abbrev nH (a : KS) : Prop := (60 : Int) = Int.ofNat (60 : Nat) /\ pB a
abbrev Eo : Prop := (0 : Nat) < (0 : Nat)
abbrev Eh : Prop := (1 : Nat) <= (1 : Nat)
abbrev LQ : Prop := (0 : Nat) < (1 : Nat)
abbrev rZ : Prop := (2 : Nat) = (2 : Nat)
abbrev kJ : Prop := Eh /\ (LQ -> rZ)
abbrev Dq : Prop := true = true -> LQ
abbrev Fu : Prop := (1 : Nat) <= (9223372036854775807 : Nat)
abbrev Hm : Prop := (1 : Nat) = (1 : Nat)
abbrev Do : Prop := Eh /\ (LQ -> Hm)
abbrev jR : Prop := (True /\ (Eo -> (0 : Nat) = (1 : Nat))) /\ Do /\ Dq /\ Fu /\ (8 : Nat) <= (140737488355328 : Nat)
abbrev SH (a : KS) : Stm := Stm.mk (Ih a) a.x.s.used a.x.s.mix
abbrev Hw (a : KS) : Int := AQ (SH a) (60 : Int)
abbrev qI (a : MkI) (a1 : KS) : Int := IntKind.i64.wrap (KY a.s + IntKind.i64.wrap (IX a.s * Hw a1))
abbrev RZ (a : MkI) (a1 : KS) : Int := IntKind.i64.wrap (qI a a1 - HF a.s)
abbrev sL (a : MkI) (a1 : KS) : Prop := RZ a a1 = RZ a a1
abbrev TY (a : MkI) (a1 : KS) : Int := IntKind.i64.wrap (qI a a1 + HF a.s)
abbrev iB (a : MkI) (a1 : KS) : Prop := TY a a1 = TY a a1
abbrev Gf (a : KS) : Stm := BB (SH a) (60 : Int)
abbrev lK (a : KS) : List Int := (Gf a).bs
abbrev iY (a : KS) : Nat := (lK a).length
abbrev Kz (a : KS) (i : Nat) : Int := gD (lK a) i
abbrev WX (a : KS) : List Int := AE (iY a) λ (i : Nat) => Kz a i
abbrev Lt (a : KS) : Nat := (WX a).length
abbrev Mc (a : KS) : Prop := Lt a = iY a
abbrev Ql (a : KS) : Prop := ∀ (i : Nat), i < Lt a -> gD (WX a) i = Kz a i
abbrev OB (a : KS) : Int := (Gf a).used
abbrev Kd (a : KS) : Prop := OB a = OB a
abbrev XH (a : KS) : Int := (Gf a).mix
abbrev Lr (a : KS) : Prop := XH a = XH a
abbrev Pi (a : KS) : Prop := (0 : Int) <= OB a
abbrev Rq (a : KS) (a1 : KS) : Prop := (↑a.k : Int) = IntKind.i64.wrap ((↑a1.k : Int) - (1 : Int))
abbrev Uw (a : KS) : Stm := Stm.mk (WX a) (OB a) (XH a)
abbrev WE (a : KS) (a1 : MkI) : Stm := KM (Uw a) (RZ a1 a) (TY a1 a)
abbrev Vy (a : KS) (a1 : MkI) : List Int := (WE a a1).bs
abbrev Rv (a : KS) (a1 : KS) (a2 : MkI) : Prop := a.x.s.bs.length = (Vy a1 a2).length
abbrev Ve (a : KS) (a1 : KS) (a2 : MkI) : Prop := ∀ (i : Nat), TU i a -> gD a.x.s.bs i = gD (Vy a1 a2) i
abbrev Sk (a : KS) (a1 : KS) (a2 : MkI) : Prop := a.x.s.used = (WE a1 a2).used
abbrev Tp (a : KS) (a1 : KS) (a2 : MkI) : Prop := a.x.s.mix = (WE a1 a2).mix
abbrev Wc (a : KS) : Prop := a.x.ms.length = (1 : Nat)
abbrev Jk (a : KS) : Prop := a.x.t.length = (1 : Nat)
abbrev Pw (a : KS) : Prop := a.x.st.length = (1 : Nat)
abbrev Lv (a : KS) (a1 : MkI) : Int := SK (Uw a) (RZ a1 a) (TY a1 a)
abbrev Oq (a : KS) : Prop := (1 : Nat) <= a.x.ms.length /\ a.x.z = []
abbrev XM (a : MkI) (a1 : KS) : Prop := gF a a1 /\ Oq a1
abbrev KE (a : KS) : Nat := a.k + (20 : Nat)
abbrev Lj (a : MkI) (a1 : KS) : Prop := (mS a).s.bs.length = a1.x.s.bs.length
abbrev Lb (a : MkI) (a1 : KS) : Prop := ∀ (i : Nat), i < (mS a).s.bs.length -> gD (mS a).s.bs i = gD a1.x.s.bs i
abbrev Km (a : MkI) (a1 : KS) : Prop := (mS a).s.used = a1.x.s.used
abbrev Oc (a : MkI) (a1 : KS) : Prop := (mS a).s.mix = a1.x.s.mix
abbrev Sm (a : MkI) : Prop := (mS a).ms.length = (0 : Nat)
abbrev Ok (a : MkI) : Prop := (mS a).t.length = (0 : Nat)
abbrev Nq (a : MkI) : Prop := (mS a).st.length = (0 : Nat)
abbrev Pa (a : MkI) : Prop := (mS a).z.length = (0 : Nat)
abbrev Lf (a : MkI) : Prop := Pa a /\ Pa a
abbrev EL (a : MkI) : Prop := Ix a (0 : Nat) (mS a) = mS a /\ (↑(0 : Nat) : Int) <= a.m /\ StmB ((7 : Int) + (7 : Int) * (a.m - (↑(0 : Nat) : Int))) (mS a).s /\ (↑(mS a).ms.length : Int) + (↑(0 : Nat) : Int) <= a.m
 /\ (mS a).t.length = (mS a).ms.length /\ (mS a).st.length = (mS a).ms.length /\ ((mS a).z = [] ∨ (mS a).z.length + (1 : Nat) <= (mS a).ms.length)
abbrev VJ (a : KS) : Int := SK (SH a) (1 : Int) (30 : Int)
abbrev OH (a : MkI) (a1 : KS) : Int := IntKind.i64.wrap (GG a.s * VJ a1)
abbrev OL (a : MkI) (a1 : KS) : Int := IntKind.i64.wrap (JR a.s * VJ a1)
abbrev WT (a : KS) : Stm := KM (SH a) (1 : Int) (30 : Int)
abbrev Rl (a : KS) : List Int := (WT a).bs
abbrev Ps (a : KS) : Nat := (Rl a).length
abbrev Ox (a : KS) (i : Nat) : Int := gD (Rl a) i
abbrev VL (a : KS) : List Int := AE (Ps a) λ (i : Nat) => Ox a i
abbrev Ls (a : KS) : Nat := (VL a).length
abbrev OD (a : KS) : Int := (WT a).used
abbrev VM (a : KS) : Int := (WT a).mix
abbrev Ll (a : KS) : Stm := Stm.mk (VL a) (OD a) (VM a)
abbrev UQ (a : KS) (a1 : MkI) : Stm := KM (Ll a) (OH a1 a) (OL a1 a)
abbrev Ss (a : KS) (a1 : MkI) : List Int := (UQ a a1).bs
abbrev Kf (a : KS) (a1 : KS) : Prop := a.x.ms.length = a1.x.ms.length
abbrev Sq (a : KS) (a1 : KS) : Prop := a.x.t.length = a1.x.t.length
abbrev Pz (a : KS) (a1 : KS) : Prop := a.x.st.length = a1.x.st.length
abbrev Pf (a : MkI) (a1 : KS) (a2 : KS) : Prop := AF /\ AF /\ AF /\ AF /\ AF /\ AA /\ AD /\ AA /\ AD /\ AA /\ AD /\ AA /\
 AD /\ AA /\ AD /\ GG a.s = GG a.s /\ JR a.s = JR a.s /\ KY a.s = KY a.s /\ IX a.s = IX a.s /\ HF a.s = HF a.s /\ AA /\ Kf a1 a2 /\ AA /\ AD /\ AA /\
 Sq a1 a2 /\ AA /\ Pz a1 a2 /\ AA /\ AD /\ Kf a1 a2 /\ (∀ (i : Nat), i < a1.x.ms.length -> (gD a1.x.ms i).pl = (gD a2.x.ms i).pl /\ (gD a1.x.ms i).ht = (gD a2.x.ms i).ht) /\
 Sq a1 a2 /\ (∀ (i : Nat), i < a1.x.t.length -> gD a1.x.t i = gD a2.x.t i) /\ Pz a1 a2 /\ ∀ (i : Nat), i < a1.x.st.length -> gD a1.x.st i = gD a2.x.st i
abbrev Ry (a : KS) (a1 : KS) : Prop := KE a <= KE a1 /\ Oq a
abbrev Mw (a : MkI) (a1 : KS) (a2 : KS) : Prop := (Ix a (kV a1) (addM a (advZ a a1.x)) = mS a /\ mV a1 a /\ StmB ((9 : Int) + Hu a a1) a1.x.s /\ Dr a1 a /\ Gc a1 /\
 Hk a1 /\ kA a1) /\ Ry a1 a2
abbrev Kk (a : KS) (a1 : KS) (a2 : MkI) : Prop := false = false /\ a.x.pl = a1.x.pl /\ a.x.tm = a1.x.tm /\ Gp a a1 /\ qN a a1 /\ rB a a1 /\ iG a a1 /\ nC a a1 /\ Pf a2 a
 a1
abbrev XC (a : MkI) (a1 : KS) (a2 : KS) : Prop := mT a a1 /\ Ry a1 a2
abbrev OW : Prop := false = true -> LQ
abbrev VY (a : KS) : Nat := a.x.ms.length + (1 : Nat)
abbrev WG (a : KS) : Nat := a.x.t.length + (1 : Nat)
abbrev VT (a : KS) : Nat := a.x.st.length + (1 : Nat)
abbrev Od (a : KS) (a1 : KS) : Prop := a.x.ms.length = VY a1
abbrev Ri (a : KS) (a1 : KS) : Prop := a.x.t.length = WG a1
abbrev Qb (a : KS) (a1 : KS) : Prop := a.x.st.length = VT a1
abbrev Mp (i : Nat) (a : KS) : Bool := decide (i < a.x.ms.length)
abbrev NW (j : Nat) : Nat := (0 : Nat) + j
abbrev Md (a : KS) (j : Nat) : Mk := gD a.x.ms (NW j)
abbrev IH (i : Nat) (a : KN) : Prop := i < a.x.s.bs.length
abbrev EH (a : MkI) : Prop := (mS a).ms.length = (mS a).ms.length
abbrev EN (a : MkI) : Prop := ∀ (i : Nat), i < (mS a).ms.length -> (gD (mS a).ms i).pl = (gD (mS a).ms i).pl /\ (gD (mS a).ms i).ht = (gD (mS a).ms i).ht
abbrev EG (a : MkI) : Prop := (mS a).t.length = (mS a).t.length
abbrev EJ (a : MkI) : Prop := ∀ (i : Nat), i < (mS a).t.length -> gD (mS a).t i = gD (mS a).t i
abbrev EM (a : MkI) : Prop := (mS a).st.length = (mS a).st.length
abbrev EK (a : MkI) : Prop := ∀ (i : Nat), i < (mS a).st.length -> gD (mS a).st i = gD (mS a).st i
abbrev EF (a : MkI) : Prop := (mS a).z.length = (mS a).z.length
abbrev EE (a : MkI) : Prop := ∀ (i : Nat), i < (mS a).z.length -> gD (mS a).z i = gD (mS a).z i
abbrev HR (a : MkI) : Prop := AF /\ AF /\ AF /\ AF /\ AF /\ AA /\ AD /\ AA /\ AD /\ AA /\ AD /\ AA /\ AD /\ AA /\
 AD /\ GG a.s = GG a.s /\ JR a.s = JR a.s /\ KY a.s = KY a.s /\ IX a.s = IX a.s /\ HF a.s = HF a.s /\ EH a /\ EN a /\ AA /\ AD /\ EG a /\ EJ a /\ EM a /\
 EK a /\ EF a /\ EE a
abbrev VQ (a : MkI) : Int := (7 : Int) * a.m
abbrev Qc (a : MkI) : Int := (7 : Int) + VQ a
abbrev Rp (a : KN) : Int := (5 : Int) * (↑a.i : Int)
abbrev Tg (a : MkI) (a1 : KN) : Prop := EL a /\ a1.i <= (mS a).ms.length /\ StmB (Qc a + Rp a1) a1.x.s /\ mkN a ((mS a).ms.length - a1.i) a1.i a1.x = KA a /\ a1.x.ns.length <= a1.i
abbrev VB (a : MkI) (a1 : KN) : Prop := Tg a a1 /\ a1.x.ns = []
abbrev Pn (a : KN) (a1 : MkI) : Bool := decide ((↑a.i : Int) < (↑(mS a1).ms.length : Int))
abbrev WI (a : KN) : List Int := AE a.x.s.bs.length λ (i : Nat) => gD a.x.s.bs i
abbrev Kn (a : KN) : Nat := (WI a).length
abbrev Jl (a : KN) : Prop := Kn a = a.x.s.bs.length /\ (∀ (i : Nat), i < Kn a -> gD (WI a) i = gD a.x.s.bs i) /\ a.x.s.used = a.x.s.used /\ a.x.s.mix = a.x.s.mix /\ (a.x.s.used - (0 :
 Int)).NonNeg
abbrev Qq (a : KN) : Prop := (2 : Int) = Int.ofNat (2 : Nat) /\ Jl a
abbrev Li (a : KNb) (a1 : KN) : Prop := (↑a.i : Int) = (↑a1.i : Int)
abbrev NX (a : KN) : Stm := Stm.mk (WI a) a.x.s.used a.x.s.mix
abbrev Nr (a : KNb) (a1 : KN) : Prop := a.b = (AQ (NX a1) (2 : Int) == (0 : Int))
abbrev UV (a : KN) : Stm := BB (NX a) (2 : Int)
abbrev Tj (a : KN) : List Int := (UV a).bs
abbrev Oz (a : KNb) (a1 : KN) : Prop := a.x.s.bs.length = (Tj a1).length
abbrev Sw (a : KNb) (a1 : KN) : Prop := ∀ (i : Nat), i < a.x.s.bs.length -> gD a.x.s.bs i = gD (Tj a1) i
abbrev Ui (a : KNb) (a1 : KN) : Prop := a.x.s.used = (UV a1).used
abbrev Qx (a : KNb) (a1 : KN) : Prop := a.x.s.mix = (UV a1).mix
abbrev JU (a : KN) : Nat := (100 : Nat) - a.i
abbrev Ue (a : KNb) : Nat := a.i + (1 : Nat)
abbrev Mr (a : MkI) (a1 : KNb) (a2 : KN) : Prop := EL a /\ (a1.i < (mS a).ms.length /\ (100 : Nat) - a1.i = JU a2) /\ StmB ((8 : Int) + VQ a + (5 : Int) * (↑a1.i : Int)) a1.x.s /\ mkN a
 ((mS a).ms.length - Ue a1) (Ue a1) (addN a a1.b a1.i a1.x) = KA a /\ a1.x.ns.length <= a1.i
abbrev Tt (a : MkI) (a1 : KNb) (a2 : KN) : Prop := Mr a a1 a2 /\ a1.x.ns = []
abbrev Qz (a : KNb) : Prop := (0 : Int) <= (↑a.i : Int)
abbrev PC (a : KNb) (a1 : MkI) : Prop := Qz a /\ (↑a.i : Int) < (↑(mS a1).t.length : Int)
abbrev OR : Prop := (40 : Int) = Int.ofNat (40 : Nat)
abbrev XE (a : KNb) : List Int := AE a.x.s.bs.length λ (i : Nat) => gD a.x.s.bs i
abbrev Px (a : KNb) : Nat := (XE a).length
abbrev Ur (a : KNb) : Prop := Px a = a.x.s.bs.length
abbrev Wj (a : KNb) : Prop := ∀ (i : Nat), i < Px a -> gD (XE a) i = gD a.x.s.bs i
abbrev Po (a : KNb) : Prop := a.x.s.used = a.x.s.used
abbrev Mq (a : KNb) : Prop := a.x.s.mix = a.x.s.mix
abbrev Lq (a : KNb) : Prop := (0 : Int) <= a.x.s.used
abbrev Nb (a : KNb) : Stm := Stm.mk (XE a) a.x.s.used a.x.s.mix
abbrev VX (a : KNb) : Stm := BB (Nb a) (40 : Int)
abbrev Mn (a : KNb) : List Int := (VX a).bs
abbrev Lk (a : KNb) : Nat := (Mn a).length
abbrev Rw (a : KNb) (i : Nat) : Int := gD (Mn a) i
abbrev VH (a : KNb) : List Int := AE (Lk a) λ (i : Nat) => Rw a i
abbrev St (a : KNb) : Nat := (VH a).length
abbrev Qj (a : KNb) : Prop := St a = Lk a
abbrev Ng (a : KNb) : Prop := ∀ (i : Nat), i < St a -> gD (VH a) i = Rw a i
abbrev OT (a : KNb) : Int := (VX a).used
abbrev Ut (a : KNb) : Prop := OT a = OT a
abbrev WQ (a : KNb) : Int := (VX a).mix
abbrev Ot (a : KNb) : Prop := WQ a = WQ a
abbrev Vu (a : KNb) : Prop := (0 : Int) <= OT a
abbrev OZ (a : KNb) (a1 : MkI) : Prop := Qz a /\ (↑a.i : Int) < (↑(mS a1).st.length : Int)
abbrev Tm (a : KNb) : Stm := Stm.mk (VH a) (OT a) (WQ a)
abbrev UU (a : KNb) : Stm := BB (Tm a) (40 : Int)
abbrev Te (a : KNb) : List Int := (UU a).bs
abbrev Wr (a : KNb) : Nat := (Te a).length
abbrev Qn (a : KNb) (i : Nat) : Int := gD (Te a) i
abbrev WL (a : KNb) : List Int := AE (Wr a) λ (i : Nat) => Qn a i
abbrev Iy (a : KNb) : Nat := (WL a).length
abbrev Vg (a : KNb) : Prop := Iy a = Wr a
abbrev Vh (a : KNb) : Prop := ∀ (i : Nat), i < Iy a -> gD (WL a) i = Qn a i
abbrev OK (a : KNb) : Int := (UU a).used
abbrev Vt (a : KNb) : Prop := OK a = OK a
abbrev XD (a : KNb) : Int := (UU a).mix
abbrev Rn (a : KNb) : Prop := XD a = XD a
abbrev Su (a : KNb) : Prop := (0 : Int) <= OK a
abbrev Om (a : KNb) : Stm := Stm.mk (WL a) (OK a) (XD a)
abbrev XA (a : KNb) : Stm := BB (Om a) (9 : Int)
abbrev Uf (a : KNb) : List Int := (XA a).bs
abbrev Sp (a : KNb) : Nat := (Uf a).length
abbrev On (a : KNb) (i : Nat) : Int := gD (Uf a) i
abbrev VE (a : KNb) : List Int := AE (Sp a) λ (i : Nat) => On a i
abbrev Ns (a : KNb) : Nat := (VE a).length
abbrev Qf (a : KNb) : Prop := Ns a = Sp a
abbrev Us (a : KNb) : Prop := ∀ (i : Nat), i < Ns a -> gD (VE a) i = On a i
abbrev OY (a : KNb) : Int := (XA a).used
abbrev Me (a : KNb) : Prop := OY a = OY a
abbrev VA (a : KNb) : Int := (XA a).mix
abbrev Jx (a : KNb) : Prop := VA a = VA a
abbrev Ob (a : KNb) : Prop := (0 : Int) <= OY a
abbrev Jp : Prop := (5 : Nat) = (5 : Nat)
abbrev Wh : Prop := Eh /\ (LQ -> Jp)
abbrev OF (a : KN) (a1 : KNb) : Prop := (↑a.i : Int) = (↑a1.i : Int)
abbrev Ni (a : KNb) : Stm := Stm.mk (VE a) (OY a) (VA a)
abbrev WP (a : KNb) : Stm := BB (Ni a) (9 : Int)
abbrev Oj (a : KNb) : List Int := (WP a).bs
abbrev Iz (a : KN) (a1 : KNb) : Prop := a.x.s.bs.length = (Oj a1).length
abbrev Uk (a : KN) (a1 : KNb) : Prop := ∀ (i : Nat), IH i a -> gD a.x.s.bs i = gD (Oj a1) i
abbrev To (a : KN) (a1 : KNb) : Prop := a.x.s.used = (WP a1).used
abbrev Oo (a : KN) (a1 : KNb) : Prop := a.x.s.mix = (WP a1).mix
abbrev Ud (a : KN) : Prop := a.x.ns.length = (1 : Nat)
abbrev Jt (a : MkI) (a1 : KNb) : Int := DJ (0 : Int) (IntKind.i64.wrap (gD (mS a).t a1.i - AQ (Nb a1) (40 : Int)))
abbrev Kq (a : MkI) (a1 : KNb) : Int := IntKind.i64.wrap (gD (mS a).t a1.i + AQ (Tm a1) (40 : Int))
abbrev Lc (a : MkI) (a1 : KNb) : Int := IntKind.i64.wrap (gD (mS a).st a1.i - AQ (Om a1) (9 : Int))
abbrev Kb (a : MkI) (a1 : KNb) : Int := IntKind.i64.wrap (gD (mS a).st a1.i + AQ (Ni a1) (9 : Int))
abbrev WO (a : KN) : Nat := a.i + (1 : Nat)
abbrev Jw (a : MkI) (a1 : KN) (a2 : KN) : Prop := EL a /\ (a1.i < (mS a).ms.length /\ JU a1 = JU a2) /\ StmB ((12 : Int) + VQ a + Rp a1) a1.x.s /\ mkN a ((mS a).ms.length
 - WO a1) (WO a1) a1.x = KA a /\ a1.x.ns.length <= WO a1
abbrev Sa (a : KN) : Prop := (1 : Nat) <= a.x.ns.length
abbrev PA (a : MkI) (a1 : KN) (a2 : KN) : Prop := Jw a a1 a2 /\ Sa a1
abbrev Jh (a : KN) (a1 : KNb) : Prop := a.x.s.bs.length = a1.x.s.bs.length
abbrev Ja (a : KN) (a1 : KNb) : Prop := ∀ (i : Nat), IH i a -> gD a.x.s.bs i = gD a1.x.s.bs i
abbrev Sx (a : KN) (a1 : KNb) : Prop := a.x.s.used = a1.x.s.used
abbrev Vo (a : KN) (a1 : KNb) : Prop := a.x.s.mix = a1.x.s.mix
abbrev Tu (a : MkI) (a1 : KN) (a2 : KN) : Prop := Jw a a1 a2 /\ a1.x.ns = []
abbrev KC (a : KN) : Int := IntKind.i64.wrap ((↑a.i : Int) + (1 : Int))
abbrev Wm (a : KN) (a1 : KN) : Prop := (↑a.i : Int) = KC a1
abbrev Mo (a : KN) (a1 : KN) : Prop := a.x.s.bs.length = a1.x.s.bs.length
abbrev Qs (a : KN) (a1 : KN) : Prop := ∀ (i : Nat), IH i a -> gD a.x.s.bs i = gD a1.x.s.bs i
abbrev Ru (a : KN) (a1 : KN) : Prop := a.x.s.used = a1.x.s.used
abbrev Vi (a : KN) (a1 : KN) : Prop := a.x.s.mix = a1.x.s.mix
abbrev We (a : KN) (a1 : KN) : Prop := JU a < JU a1
abbrev OP (a : KN) (a1 : KN) : Prop := a.x.ns.length = a1.x.ns.length
abbrev Jj (a : MkI) (a1 : KN) : Prop := Tg a a1 /\ Sa a1
abbrev XI (a : MkI) (a1 : KN) : Prop := ∀ (a_1 : KN), PA a a_1 a1 -> ∃ (a_3 : KN), (Wm a_3 a_1 /\ Mo a_3 a_1 /\ Qs a_3 a_1 /\ Ru a_3 a_1 /\ Vi a_3 a_1 /\
 AF /\ AF /\ AF /\ AF /\ AF /\ AA /\ AD /\ AA /\ AD /\ AA /\ AD /\ AA /\ AD /\ AA /\ AD /\ GG a.s = GG a.s /\ JR
 a.s = JR a.s /\ KY a.s = KY a.s /\ IX a.s = IX a.s /\ HF a.s = HF a.s /\ EH a /\ EN a /\ AA /\ OP a_3 a_1 /\ EG a /\ EJ a /\ EM a /\ EK a /\ EF a
 /\ EE a /\ OP a_3 a_1 /\ ∀ (i : Nat), i < a_3.x.ns.length -> (gD a_3.x.ns i).mi = (gD a_1.x.ns i).mi /\ (gD a_3.x.ns i).t.lo = (gD a_1.x.ns i).t.lo /\ (gD a_3.x.ns i).t.hi = (gD a_1.x.ns i).t.hi /\ (gD
 a_3.x.ns i).s.lo = (gD a_1.x.ns i).s.lo /\ (gD a_3.x.ns i).s.hi = (gD a_1.x.ns i).s.hi) /\ Jj a a_3 /\ We a_3 a1
abbrev Se (a : MkI) (a1 : KN) : Prop := (KA a).s.bs.length = a1.x.s.bs.length
abbrev Tb (a : MkI) (a1 : KN) : Prop := ∀ (i : Nat), i < (KA a).s.bs.length -> gD (KA a).s.bs i = gD a1.x.s.bs i
abbrev Sf (a : MkI) (a1 : KN) : Prop := (KA a).s.used = a1.x.s.used
abbrev Kt (a : MkI) (a1 : KN) : Prop := (KA a).s.mix = a1.x.s.mix
abbrev Ji (a : MkI) : Prop := EL a /\ (KA a).ns = []
abbrev Ul (a : KNb) (a1 : KN) : Prop := a.x.ns.length = a1.x.ns.length
abbrev Lh (a : MkI) (a1 : KNb) (a2 : KN) : Prop := Mr a a1 a2 /\ (1 : Nat) <= a1.x.ns.length
abbrev WS (a : KNb) : Nat := a.x.ns.length + (1 : Nat)
abbrev Qm (a : KN) (a1 : KNb) : Prop := a.x.ns.length = WS a1
abbrev KJ (i : Nat) (a : KNb) : Bool := decide (i < a.x.ns.length)
abbrev Kx (a : KN) (a1 : KNb) : Prop := a.x.ns.length = a1.x.ns.length
abbrev Ku (a : MkI) (a1 : KN) : Prop := (KA a).ns.length = a1.x.ns.length
abbrev Ua (a : MkI) : Int := Qc a + (5 : Int) * a.m
abbrev Kl (a : MkI) : Prop := EL a /\ StmB (Ua a) (KA a).s /\ (1 : Nat) <= (KA a).ns.length /\ (↑(KA a).ns.length : Int) <= a.m
abbrev UR (i : Nat) (a : MkI) : Prop := i < (mE a).s.bs.length
abbrev Vq (a : MkI) : Prop := (HC a).ms.length = (mS a).ms.length
abbrev Uo (a : MkI) : Prop := ∀ (i : Nat), i < (HC a).ms.length -> (gD (HC a).ms i).pl = (gD (mS a).ms i).pl /\ (gD (HC a).ms i).ht = (gD (mS a).ms i).ht
abbrev Vb (a : MkI) : Prop := (HC a).ns.length = (0 : Nat)
abbrev Vw (a : MkI) : Prop := (sX a).t.length = (mS a).t.length
abbrev Ux (a : MkI) : Prop := ∀ (i : Nat), i < (sX a).t.length -> gD (sX a).t i = gD (mS a).t i
abbrev Lg (a : MkI) : Prop := (sX a).s.length = (mS a).st.length
abbrev Qd (a : MkI) : Prop := ∀ (i : Nat), i < (sX a).s.length -> gD (sX a).s i = gD (mS a).st i
abbrev Uq (a : MkI) : Prop := (sX a).z.length = (mS a).z.length
abbrev So (a : MkI) : Prop := ∀ (i : Nat), i < (sX a).z.length -> gD (sX a).z i = gD (mS a).z i
abbrev Js (a : KN) (a1 : MkI) : Prop := a.x.ns.length = (KA a1).ns.length
abbrev UW (a : MkI) (a1 : KN) : Prop := EL a /\ a1.i < a1.x.ns.length /\ StmB (Ua a + a.m - (↑a1.i : Int)) a1.x.s /\ shK a1.i a1.x = mE a /\ (↑a1.x.ns.length : Int) <= a.m
abbrev UY (a : KN) : Int := AQ (NX a) (KC a)
abbrev Kg (a : KN) : Prop := (0 : Int) <= UY a /\ UY a < (↑a.x.ns.length : Int)
abbrev OV (a : KN) : Nat := (0 : Nat) + (UY a).toNat
abbrev Of (a : KN) : Prop := (0 : Int) <= (↑a.i : Int) /\ (↑a.i : Int) < (↑a.x.ns.length : Int)
abbrev XJ (a : KN) : Nat := (0 : Nat) + a.i
abbrev Qa (a : KN) : Prop := XJ a < a.x.ns.length
abbrev VO (a : KN) : Stm := BB (NX a) (KC a)
abbrev Pv (a : KN) : List Int := (VO a).bs
abbrev JQ (i : Nat) (a : KN) : Bool := decide (i = OV a)
abbrev WC (a : KN) : Nt := gD a.x.ns (XJ a)
abbrev JT (i : Nat) (a : KN) : Bool := decide (i = XJ a)
abbrev VZ (a : KN) : Nt := gD a.x.ns (OV a)
abbrev Sg (a : KN) : Span := (WC a).t
abbrev Lu (a : KN) : Span := (VZ a).t
abbrev Nj (a : KN) : Span := (WC a).s
abbrev Ma (a : KN) : Span := (VZ a).s
abbrev VR (a : KN) (j : Nat) : Nt := gD a.x.ns (NW j)
abbrev Mf (a : KN) (j : Nat) : Span := (VR a j).t
abbrev Lw (a : KN) (j : Nat) : Span := (VR a j).s
theorem CLF (a : MkI) : (CCZ a) = (((dE /\ ACE /\ ADL a = a.s.bs.length /\ (∀ (i : Nat), i < ADL a -> gD (dK a) i = gD a.s.bs i) /\ a.s.used = a.s.used /\ a.s.mix = a.s.mix /\ (0 : Int)
 <= a.s.used /\ (-50 : Int) = Int.negSucc (49 : Nat) /\ (400 : Int) = Int.ofNat (400 : Nat) /\ hC a = AIW a /\ (∀ (i : Nat), i < hC a -> gD (Xo a) i = AHT a i) /\ SF a = SF a /\
 Gt a = Gt a /\ (0 : Int) <= SF a /\ ACE /\ pK a = qE a /\ (∀ (i : Nat), i < pK a -> gD (Hq a) i = rH a i) /\ TW a = TW a /\ Ig a =
 Ig a /\ (0 : Int) <= TW a /\ LT /\ fK a = gM a /\ (∀ (i : Nat), i < fK a -> gD (In a) i = mF a i) /\ SM a = SM a /\ Ev a = Ev a /\
 (SM a - (0 : Int)).NonNeg) /\ ∃ (a_1 : One), (a.m = a.m /\ false = false /\ (gS4 a.s).bs.length = (jG a).length /\ (∀ (i : Nat), i < (gS4 a.s).bs.length -> gD (gS4 a.s).bs i = gD (jG a) i) /\ (gS4
 a.s).used = (De a).used /\ (gS4 a.s).mix = (De a).mix /\ AF /\ AF /\ AF /\ AF /\ AF /\ AA /\ AD /\ AA /\ AD /\ AA /\ AD /\
 AA /\ AD /\ AA /\ AD /\ GG a.s = SK (AHE a) (1 : Int) (12 : Int) /\ AF /\ KY a.s = SK (jZ a) (-50 : Int) (400 : Int) /\ IX a.s = AQ (qT a) (12 : Int) /\ HF
 a.s = AQ (jW a) (9 : Int) /\ Gw) /\ StmB (4 : Int) (gS4 a.s)) /\ ∀ (a_1 : One), StmB (4 : Int) (gS4 a.s) -> (((6 : Int) = Int.ofNat (6 : Nat) /\ iU a = (gS4 a.s).bs.length /\ (∀ (i : Nat), i <
 iU a -> gD (Hl a) i = gD (gS4 a.s).bs i) /\ (gS4 a.s).used = (gS4 a.s).used /\ (gS4 a.s).mix = (gS4 a.s).mix /\ ((gS4 a.s).used - (0 : Int)).NonNeg) /\ ∃ (a_3 : One), (a.m = a.m /\ false = false /\ (gS5
 a.s).bs.length = (gR a).length /\ (∀ (i : Nat), i < (gS5 a.s).bs.length -> gD (gS5 a.s).bs i = gD (gR a) i) /\ (gS5 a.s).used = (Dc a).used /\ (gS5 a.s).mix = (Dc a).mix /\ AF /\
 AF /\ AF /\ AF /\ AF /\ AA /\ AD /\ AA /\ AD /\ AA /\ AD /\ AA /\ AD /\ AA /\ AD /\ GG a.s = GG a.s /\ JR a.s =
 IntKind.i64.wrap (GG a.s + AQ (qL a) (6 : Int)) /\ KY a.s = KY a.s /\ IX a.s = IX a.s /\ HF a.s = HF a.s /\ Gw) /\ StmB (5 : Int) (gS5 a.s)) /\ ∀ (a_3 : One), StmB (5 : Int) (gS5 a.s) -> (((300 : Int)
 = Int.ofNat (300 : Nat) /\ pZ a = (gS5 a.s).bs.length /\ (∀ (i : Nat), i < pZ a -> gD (Ha a) i = gD (gS5 a.s).bs i) /\ (gS5 a.s).used = (gS5 a.s).used /\ (gS5 a.s).mix = (gS5 a.s).mix /\ ((gS5 a.s).used
 - (0 : Int)).NonNeg) /\ ∃ (a_5 : One), (a.m = a.m /\ false = false /\ AF /\ hTm a.s = AQ (oC a) (300 : Int) /\ (gS6 a.s).bs.length = (oV a).length /\ (∀ (i : Nat), i < (gS6 a.s).bs.length -> gD (gS6
 a.s).bs i = gD (oV a) i) /\ (gS6 a.s).used = (Fd a).used /\ (gS6 a.s).mix = (Fd a).mix /\ Hg a) /\ StmB (6 : Int) (gS6 a.s)) /\ ∀ (a_5 : One), StmB (6 : Int) (gS6 a.s) -> ((dE /\ a.m = a.m
 /\ fY a = (gS6 a.s).bs.length /\ (∀ (i : Nat), i < fY a -> gD (Fq a) i = gD (gS6 a.s).bs i) /\ (gS6 a.s).used = (gS6 a.s).used /\ (gS6 a.s).mix = (gS6 a.s).mix /\ ((gS6 a.s).used - (0 : Int)).NonNeg) /\
 (∃ (a_7 : KS), (false = false /\ a_7.x.pl = (0 : Int) /\ a_7.x.tm = hTm a.s /\ (↑a_7.k : Int) = SK (rM a) (1 : Int) a.m /\ a_7.x.s.bs.length = (lW a).length /\ (∀ (i : Nat), TU i a_7 -> gD a_7.x.s.bs
 i = gD (lW a) i) /\ a_7.x.s.used = (Es a).used /\ a_7.x.s.mix = (Es a).mix /\ Hg a) /\ kX a a_7) /\ (∀ (a_7 : KS), kX a a_7 -> bif rG a_7 then (∃ (a_9 : KS), (false =
 false /\ a_9.x.pl = a_7.x.pl /\ a_9.x.tm = a_7.x.tm /\ Gp a_9 a_7 /\ qN a_9 a_7 /\ rB a_9 a_7 /\ iG a_9 a_7 /\ nC a_9 a_7 /\ Hg a) /\ pF a a_9) /\ ∀ (a_9 : KS), pF a
 a_9 -> nH a_9 /\ (((True /\ (Eo -> (0 : Nat) = (2 : Nat))) /\ kJ /\ Dq /\ Fu /\ (16 : Nat) <= (140737488355328 : Nat)) /\ jR /\ sL a a_9 /\ iB a a_9 /\ Mc a_9 /\
 Ql a_9 /\ Kd a_9 /\ Lr a_9 /\ Pi a_9 /\ jR) /\ ∃ (a_11 : KS), (false = false /\ a_11.x.pl = a_9.x.pl /\ a_11.x.tm = a_9.x.tm /\ Rq a_11 a_9 /\ Rv a_11 a_9 a /\
 Ve a_11 a_9 a /\ Sk a_11 a_9 a /\ Tp a_11 a_9 a /\ AF /\ AF /\ AF /\ AF /\ AF /\ AA /\ AD /\ AA /\ AD /\ AA /\ AD /\
 AA /\ AD /\ AA /\ AD /\ GG a.s = GG a.s /\ JR a.s = JR a.s /\ KY a.s = KY a.s /\ IX a.s = IX a.s /\ HF a.s = HF a.s /\ AA /\ Wc a_11 /\ AA /\ AD /\ AA
 /\ Jk a_11 /\ AA /\ Pw a_11 /\ AA /\ AD /\ Wc a_11 /\ (∀ (i : Nat), i < a_11.x.ms.length -> (gD a_11.x.ms i).pl = a_9.x.pl /\ (gD a_11.x.ms i).ht = Hw a_9) /\ Jk
 a_11 /\ (∀ (i : Nat), i < a_11.x.t.length -> gD a_11.x.t i = a_9.x.tm) /\ Pw a_11 /\ ∀ (i : Nat), i < a_11.x.st.length -> gD a_11.x.st i = Lv a_9 a) /\ XM a a_11 /\ KE a_11 < (100 : Nat) else
 ∃ (a_9 : One), (Lj a a_7 /\ Lb a a_7 /\ Km a a_7 /\ Oc a a_7 /\ AF /\ AF /\ AF /\ AF /\ AF /\ AA /\ AD /\ AA /\ AD /\
 AA /\ AD /\ AA /\ AD /\ AA /\ AD /\ GG a.s = GG a.s /\ JR a.s = JR a.s /\ KY a.s = KY a.s /\ IX a.s = IX a.s /\ HF a.s = HF a.s /\ Sm a /\ Sm a /\ AA
 /\ AD /\ Ok a /\ Ok a /\ Nq a /\ Nq a /\ Lf a) /\ EL a) /\ ∀ (a_7 : KS), XM a a_7 -> bif rG a_7 then (bif decide ((↑a_7.x.ms.length : Int) > (0 :
 Int)) then (dE /\ (30 : Int) = Int.ofNat (30 : Nat) /\ pB a_7) /\ ((OH a a_7 = OH a a_7 /\ OL a a_7 = OL a a_7 /\ Ls a_7 = Ps a_7 /\ (∀ (i : Nat), i <
 Ls a_7 -> gD (VL a_7) i = Ox a_7 i) /\ OD a_7 = OD a_7 /\ VM a_7 = VM a_7 /\ (OD a_7 - (0 : Int)).NonNeg) /\ ∃ (a_9 : KS), (false = false /\ a_9.x.pl =
 IntKind.i64.wrap (a_7.x.pl + VJ a_7) /\ a_9.x.tm = IntKind.i64.wrap (a_7.x.tm + SK (Ll a_7) (OH a a_7) (OL a a_7)) /\ Gp a_9 a_7 /\ a_9.x.s.bs.length = (Ss a_7
 a).length /\ (∀ (i : Nat), TU i a_9 -> gD a_9.x.s.bs i = gD (Ss a_7 a) i) /\ a_9.x.s.used = (UQ a_7 a).used /\ a_9.x.s.mix = (UQ a_7 a).mix /\ Pf a a_9 a_7) /\ Mw a a_9 a_7)
 /\ ∀ (a_9 : KS), Mw a a_9 a_7 -> false = false /\ false = false /\ false = false /\ (false = true -> false = true) /\ ∃ (a_11 : KS), Kk a_11 a_9 a /\ XC a a_11 a_7 else ∃ (a_9 : KS), Kk a_9
 a_7 a /\ XC a a_9 a_7) /\ ∀ (a_9 : KS), XC a a_9 a_7 -> nH a_9 /\ (((a_9.x.ms.length = a_9.x.ms.length /\ ((0 : Nat) < a_9.x.ms.length -> rZ)) /\ kJ /\ OW /\ VY a_9 <=
 (9223372036854775807 : Nat) /\ VY a_9 * (16 : Nat) <= (140737488355328 : Nat)) /\ ((a_9.x.t.length = a_9.x.t.length /\ ((0 : Nat) < a_9.x.t.length -> Hm)) /\ Do /\ OW /\ WG a_9 <=
 (9223372036854775807 : Nat) /\ WG a_9 * (8 : Nat) <= (140737488355328 : Nat)) /\ sL a a_9 /\ iB a a_9 /\ Mc a_9 /\ Ql a_9 /\ Kd a_9 /\ Lr a_9 /\ Pi a_9 /\
 (a_9.x.st.length = a_9.x.st.length /\ ((0 : Nat) < a_9.x.st.length -> Hm)) /\ Do /\ OW /\ VT a_9 <= (9223372036854775807 : Nat) /\ VT a_9 * (8 : Nat) <= (140737488355328 : Nat)) /\ ∃
 (a_11 : KS), (false = false /\ a_11.x.pl = a_9.x.pl /\ a_11.x.tm = a_9.x.tm /\ Rq a_11 a_9 /\ Rv a_11 a_9 a /\ Ve a_11 a_9 a /\ Sk a_11 a_9 a /\ Tp a_11 a_9 a /\ AF /\
 AF /\ AF /\ AF /\ AF /\ AA /\ AD /\ AA /\ AD /\ AA /\ AD /\ AA /\ AD /\ AA /\ AD /\ GG a.s = GG a.s /\ JR a.s = JR a.s
 /\ KY a.s = KY a.s /\ IX a.s = IX a.s /\ HF a.s = HF a.s /\ AA /\ Od a_11 a_9 /\ AA /\ AD /\ AA /\ Ri a_11 a_9 /\ AA /\ Qb a_11 a_9 /\ AA /\ AD
 /\ Od a_11 a_9 /\ (∀ (i : Nat), i < a_11.x.ms.length -> ((gD a_11.x.ms i).pl = bif Mp i a_9 then (gD a_9.x.ms i).pl else a_9.x.pl) /\ (gD a_11.x.ms i).ht = bif Mp i a_9 then (gD a_9.x.ms i).ht else
 Hw a_9) /\ Ri a_11 a_9 /\ (∀ (i : Nat), i < a_11.x.t.length -> gD a_11.x.t i = bif decide (i < a_9.x.t.length) then gD a_9.x.t i else a_9.x.tm) /\ Qb a_11 a_9 /\ ∀ (i : Nat), i < a_11.x.st.length ->
 gD a_11.x.st i = bif decide (i < a_9.x.st.length) then gD a_9.x.st i else Lv a_9 a) /\ XM a a_11 /\ KE a_11 < KE a_7 else ∃ (a_9 : One), (Lj a a_7 /\ Lb a a_7 /\
 Km a a_7 /\ Oc a a_7 /\ AF /\ AF /\ AF /\ AF /\ AF /\ AA /\ AD /\ AA /\ AD /\ AA /\ AD /\ AA /\ AD /\ AA
 /\ AD /\ GG a.s = GG a.s /\ JR a.s = JR a.s /\ KY a.s = KY a.s /\ IX a.s = IX a.s /\ HF a.s = HF a.s /\ (mS a).ms.length = a_7.x.ms.length /\ (0 : Nat) + a_7.x.ms.length <= a_7.x.ms.length /\ (∀ (j : Nat), j <
 (mS a).ms.length -> (gD (mS a).ms j).pl = (Md a_7 j).pl /\ (gD (mS a).ms j).ht = (Md a_7 j).ht) /\ AA /\ AD /\ (mS a).t.length = a_7.x.t.length /\ (0 : Nat) + a_7.x.t.length <= a_7.x.t.length /\
 (∀ (j : Nat), j < (mS a).t.length -> gD (mS a).t j = gD a_7.x.t (NW j)) /\ (mS a).st.length = a_7.x.st.length /\ (0 : Nat) + a_7.x.st.length <= a_7.x.st.length /\ (∀ (j : Nat), j < (mS a).st.length -> gD (mS a).st j =
 gD a_7.x.st (NW j)) /\ Lf a) /\ EL a) /\ ∀ (a_7 : One), EL a -> ((∃ (a_9 : KN), ((↑a_9.i : Int) = (0 : Int) /\ a_9.x.s.bs.length = (mS a).s.bs.length /\ (∀ (i : Nat), IH i a_9 -> gD
 a_9.x.s.bs i = gD (mS a).s.bs i) /\ a_9.x.s.used = (mS a).s.used /\ a_9.x.s.mix = (mS a).s.mix /\ HR a) /\ VB a a_9) /\ (∀ (a_9 : KN), VB a a_9 -> bif bif Pn a_9 a then decide ((↑(0 : Nat) :
 Int) < (20 : Int)) else false then ((Qq a_9 /\ ∃ (a_11 : KNb), (Li a_11 a_9 /\ Nr a_11 a_9 /\ Oz a_11 a_9 /\ Sw a_11 a_9 /\ Ui a_11 a_9 /\ Qx a_11 a_9 /\
 HR a) /\ Tt a a_11 a_9) /\ ∀ (a_11 : KNb), Tt a a_11 a_9 -> bif a_11.b then (PC a_11 a /\ OR /\ Ur a_11 /\ Wj a_11 /\ Po a_11 /\ Mq a_11 /\
 Lq a_11 /\ PC a_11 a /\ OR /\ Qj a_11 /\ Ng a_11 /\ Ut a_11 /\ Ot a_11 /\ Vu a_11 /\ OZ a_11 a /\ LT /\ Vg a_11 /\ Vh a_11 /\
 Vt a_11 /\ Rn a_11 /\ Su a_11 /\ OZ a_11 a /\ LT /\ Qf a_11 /\ Us a_11 /\ Me a_11 /\ Jx a_11 /\ Ob a_11 /\ (True /\ (Eo -> (0 : Nat) =
 (5 : Nat))) /\ Wh /\ Dq /\ Fu /\ (40 : Nat) <= (140737488355328 : Nat)) /\ ∃ (a_13 : KN), (OF a_13 a_11 /\ Iz a_13 a_11 /\ Uk a_13 a_11 /\ To a_13 a_11 /\ Oo
 a_13 a_11 /\ AF /\ AF /\ AF /\ AF /\ AF /\ AA /\ AD /\ AA /\ AD /\ AA /\ AD /\ AA /\ AD /\ AA /\ AD /\ GG a.s = GG
 a.s /\ JR a.s = JR a.s /\ KY a.s = KY a.s /\ IX a.s = IX a.s /\ HF a.s = HF a.s /\ EH a /\ EN a /\ AA /\ Ud a_13 /\ EG a /\ EJ a /\ EM a /\ EK a /\
 EF a /\ EE a /\ Ud a_13 /\ ∀ (i : Nat), i < a_13.x.ns.length -> (gD a_13.x.ns i).mi = (↑a_11.i : Int) /\ (gD a_13.x.ns i).t.lo = Jt a a_11 /\ (gD a_13.x.ns i).t.hi = Kq a a_11 /\ (gD
 a_13.x.ns i).s.lo = Lc a a_11 /\ (gD a_13.x.ns i).s.hi = Kb a a_11) /\ PA a a_13 a_9 else ∃ (a_13 : KN), (OF a_13 a_11 /\ Jh a_13 a_11 /\ Ja a_13 a_11 /\ Sx a_13
 a_11 /\ Vo a_13 a_11 /\ HR a) /\ Tu a a_13 a_9) /\ (∀ (a_11 : KN), Tu a a_11 a_9 -> ∃ (a_13 : KN), (Wm a_13 a_11 /\ Mo a_13 a_11 /\ Qs a_13 a_11 /\ Ru a_13
 a_11 /\ Vi a_13 a_11 /\ HR a) /\ VB a a_13 /\ We a_13 a_9) /\ XI a a_9 else ∃ (a_11 : One), (Se a a_9 /\ Tb a a_9 /\ Sf a a_9 /\ Kt a a_9 /\
 HR a) /\ Ji a) /\ ∀ (a_9 : KN), Jj a a_9 -> bif bif Pn a_9 a then decide ((↑a_9.x.ns.length : Int) < (20 : Int)) else false then ((Qq a_9 /\ ∃ (a_11 : KNb), (Li a_11 a_9
 /\ Nr a_11 a_9 /\ Oz a_11 a_9 /\ Sw a_11 a_9 /\ Ui a_11 a_9 /\ Qx a_11 a_9 /\ AF /\ AF /\ AF /\ AF /\ AF /\ AA /\ AD /\ AA /\
 AD /\ AA /\ AD /\ AA /\ AD /\ AA /\ AD /\ GG a.s = GG a.s /\ JR a.s = JR a.s /\ KY a.s = KY a.s /\ IX a.s = IX a.s /\ HF a.s = HF a.s /\ EH a /\ EN a
 /\ AA /\ Ul a_11 a_9 /\ EG a /\ EJ a /\ EM a /\ EK a /\ EF a /\ EE a /\ Ul a_11 a_9 /\ ∀ (i : Nat), i < a_11.x.ns.length -> (gD a_11.x.ns i).mi = (gD
 a_9.x.ns i).mi /\ (gD a_11.x.ns i).t.lo = (gD a_9.x.ns i).t.lo /\ (gD a_11.x.ns i).t.hi = (gD a_9.x.ns i).t.hi /\ (gD a_11.x.ns i).s.lo = (gD a_9.x.ns i).s.lo /\ (gD a_11.x.ns i).s.hi = (gD a_9.x.ns i).s.hi) /\ Lh a
 a_11 a_9) /\ ∀ (a_11 : KNb), Lh a a_11 a_9 -> bif a_11.b then (PC a_11 a /\ OR /\ Ur a_11 /\ Wj a_11 /\ Po a_11 /\ Mq a_11 /\ Lq a_11 /\ PC a_11 a /\
 OR /\ Qj a_11 /\ Ng a_11 /\ Ut a_11 /\ Ot a_11 /\ Vu a_11 /\ OZ a_11 a /\ LT /\ Vg a_11 /\ Vh a_11 /\ Vt a_11 /\ Rn a_11 /\
 Su a_11 /\ OZ a_11 a /\ LT /\ Qf a_11 /\ Us a_11 /\ Me a_11 /\ Jx a_11 /\ Ob a_11 /\ (a_11.x.ns.length = a_11.x.ns.length /\ ((0 : Nat) < a_11.x.ns.length ->
 Jp)) /\ Wh /\ OW /\ WS a_11 <= (9223372036854775807 : Nat) /\ WS a_11 * (40 : Nat) <= (140737488355328 : Nat)) /\ ∃ (a_13 : KN), (OF a_13 a_11 /\ Iz a_13 a_11 /\
 Uk a_13 a_11 /\ To a_13 a_11 /\ Oo a_13 a_11 /\ AF /\ AF /\ AF /\ AF /\ AF /\ AA /\ AD /\ AA /\ AD /\ AA /\ AD /\
 AA /\ AD /\ AA /\ AD /\ GG a.s = GG a.s /\ JR a.s = JR a.s /\ KY a.s = KY a.s /\ IX a.s = IX a.s /\ HF a.s = HF a.s /\ EH a /\ EN a /\ AA /\ Qm a_13 a_11 /\
 EG a /\ EJ a /\ EM a /\ EK a /\ EF a /\ EE a /\ Qm a_13 a_11 /\ ∀ (i : Nat), i < a_13.x.ns.length -> ((gD a_13.x.ns i).mi = bif KJ i a_11 then (gD a_11.x.ns
 i).mi else (↑a_11.i : Int)) /\ ((gD a_13.x.ns i).t.lo = bif KJ i a_11 then (gD a_11.x.ns i).t.lo else Jt a a_11) /\ ((gD a_13.x.ns i).t.hi = bif KJ i a_11 then (gD a_11.x.ns i).t.hi else
 Kq a a_11) /\ ((gD a_13.x.ns i).s.lo = bif KJ i a_11 then (gD a_11.x.ns i).s.lo else Lc a a_11) /\ (gD a_13.x.ns i).s.hi = bif KJ i a_11 then (gD a_11.x.ns i).s.hi else Kb a
 a_11) /\ PA a a_13 a_9 else ∃ (a_13 : KN), (OF a_13 a_11 /\ Jh a_13 a_11 /\ Ja a_13 a_11 /\ Sx a_13 a_11 /\ Vo a_13 a_11 /\ AF /\ AF /\ AF /\
 AF /\ AF /\ AA /\ AD /\ AA /\ AD /\ AA /\ AD /\ AA /\ AD /\ AA /\ AD /\ GG a.s = GG a.s /\ JR a.s = JR a.s /\ KY a.s = KY a.s /\ IX
 a.s = IX a.s /\ HF a.s = HF a.s /\ EH a /\ EN a /\ AA /\ Kx a_13 a_11 /\ EG a /\ EJ a /\ EM a /\ EK a /\ EF a /\ EE a /\ Kx a_13
 a_11 /\ ∀ (i : Nat), i < a_13.x.ns.length -> (gD a_13.x.ns i).mi = (gD a_11.x.ns i).mi /\ (gD a_13.x.ns i).t.lo = (gD a_11.x.ns i).t.lo /\ (gD a_13.x.ns i).t.hi = (gD a_11.x.ns i).t.hi /\ (gD a_13.x.ns i).s.lo = (gD a_11.x.ns
 i).s.lo /\ (gD a_13.x.ns i).s.hi = (gD a_11.x.ns i).s.hi) /\ PA a a_13 a_9) /\ XI a a_9 /\ XI a a_9 else ∃ (a_11 : One), (Se a a_9 /\ Tb a a_9 /\ Sf a a_9 /\ Kt a
 a_9 /\ AF /\ AF /\ AF /\ AF /\ AF /\ AA /\ AD /\ AA /\ AD /\ AA /\ AD /\ AA /\ AD /\ AA /\ AD /\ GG a.s = GG a.s /\
 JR a.s = JR a.s /\ KY a.s = KY a.s /\ IX a.s = IX a.s /\ HF a.s = HF a.s /\ EH a /\ EN a /\ AA /\ Ku a a_9 /\ EG a /\ EJ a /\ EM a /\ EK a /\ EF
 a /\ EE a /\ Ku a a_9 /\ ∀ (i : Nat), i < (KA a).ns.length -> (gD (KA a).ns i).mi = (gD a_9.x.ns i).mi /\ (gD (KA a).ns i).t.lo = (gD a_9.x.ns i).t.lo /\ (gD (KA a).ns i).t.hi = (gD a_9.x.ns i).t.hi /\ (gD
 (KA a).ns i).s.lo = (gD a_9.x.ns i).s.lo /\ (gD (KA a).ns i).s.hi = (gD a_9.x.ns i).s.hi) /\ Kl a) /\ (∀ (a_9 : One), Ji a -> (∃ (a_11 : One), (Int.negSucc (0 : Nat) = Int.negSucc (0 : Nat) /\ (mE
 a).s.bs.length = (KA a).s.bs.length /\ (∀ (i : Nat), UR i a -> gD (mE a).s.bs i = gD (KA a).s.bs i) /\ (mE a).s.used = (KA a).s.used /\ (mE a).s.mix = (KA a).s.mix /\ HR a) /\ (mE a).ns = []) /\ ∀ (a_11 :
 One), (mE a).ns = [] -> (HC a).p.lo = GG a.s /\ (HC a).p.hi = JR a.s /\ (HC a).base = KY a.s /\ (HC a).scale = IX a.s /\ (HC a).off = HF a.s /\ Vq a /\ Uo a /\ Vb a /\ Vb a /\
 Vw a /\ Ux a /\ Lg a /\ Qd a /\ Uq a /\ So a /\ (mE a).s.bs.length = (mE a).s.bs.length /\ (∀ (i : Nat), UR i a -> gD (mE a).s.bs i = gD (mE a).s.bs i) /\ (mE
 a).s.used = (mE a).s.used /\ (mE a).s.mix = (mE a).s.mix) /\ ∀ (a_9 : One), Kl a -> (∃ (a_11 : KN), ((↑a_11.i : Int) = IntKind.i64.wrap ((↑(KA a).ns.length : Int) - (1 : Int)) /\ a_11.x.s.bs.length = (KA
 a).s.bs.length /\ (∀ (i : Nat), IH i a_11 -> gD a_11.x.s.bs i = gD (KA a).s.bs i) /\ a_11.x.s.used = (KA a).s.used /\ a_11.x.s.mix = (KA a).s.mix /\ AF /\ AF /\ AF /\ AF /\ AF /\
 AA /\ AD /\ AA /\ AD /\ AA /\ AD /\ AA /\ AD /\ AA /\ AD /\ GG a.s = GG a.s /\ JR a.s = JR a.s /\ KY a.s = KY a.s /\ IX a.s = IX a.s /\ HF a.s =
 HF a.s /\ EH a /\ EN a /\ AA /\ Js a_11 a /\ EG a /\ EJ a /\ EM a /\ EK a /\ EF a /\ EE a /\ Js a_11 a /\ ∀ (i : Nat), i <
 a_11.x.ns.length -> (gD a_11.x.ns i).mi = (gD (KA a).ns i).mi /\ (gD a_11.x.ns i).t.lo = (gD (KA a).ns i).t.lo /\ (gD a_11.x.ns i).t.hi = (gD (KA a).ns i).t.hi /\ (gD a_11.x.ns i).s.lo = (gD (KA a).ns i).s.lo /\ (gD
 a_11.x.ns i).s.hi = (gD (KA a).ns i).s.hi) /\ UW a a_11) /\ ∀ (a_11 : KN), UW a a_11 -> bif decide ((↑a_11.i : Int) > (0 : Int)) then (KC a_11 = KC a_11 /\ Jl a_11) /\
 (Kg a_11 /\ OV a_11 < a_11.x.ns.length /\ Of a_11 /\ Qa a_11 /\ Of a_11 /\ Qa a_11 /\ Kg a_11 /\ (OV a_11).succ.le a_11.x.ns.length) /\ ∃ (a_13 : KN),
 ((↑a_13.i : Int) = IntKind.i64.wrap ((↑a_11.i : Int) - (1 : Int)) /\ a_13.x.s.bs.length = (Pv a_11).length /\ (∀ (i : Nat), IH i a_13 -> gD a_13.x.s.bs i = gD (Pv a_11) i) /\ a_13.x.s.used =
 (VO a_11).used /\ a_13.x.s.mix = (VO a_11).mix /\ AF /\ AF /\ AF /\ AF /\ AF /\ AA /\ AD /\ AA /\ AD /\ AA /\ AD /\ AA
 /\ AD /\ AA /\ AD /\ GG a.s = GG a.s /\ JR a.s = JR a.s /\ KY a.s = KY a.s /\ IX a.s = IX a.s /\ HF a.s = HF a.s /\ EH a /\ EN a /\ AA /\ OP a_13 a_11 /\
 EG a /\ EJ a /\ EM a /\ EK a /\ EF a /\ EE a /\ OP a_13 a_11 /\ ∀ (i : Nat), i < a_13.x.ns.length -> ((gD a_13.x.ns i).mi = bif JQ i a_11 then (WC
 a_11).mi else bif JT i a_11 then (VZ a_11).mi else (gD a_11.x.ns i).mi) /\ ((gD a_13.x.ns i).t.lo = bif JQ i a_11 then (Sg a_11).lo else bif JT i a_11 then (Lu
 a_11).lo else (gD a_11.x.ns i).t.lo) /\ ((gD a_13.x.ns i).t.hi = bif JQ i a_11 then (Sg a_11).hi else bif JT i a_11 then (Lu a_11).hi else (gD a_11.x.ns i).t.hi) /\ ((gD a_13.x.ns
 i).s.lo = bif JQ i a_11 then (Nj a_11).lo else bif JT i a_11 then (Ma a_11).lo else (gD a_11.x.ns i).s.lo) /\ (gD a_13.x.ns i).s.hi = bif JQ i a_11 then (Nj a_11).hi
 else bif JT i a_11 then (Ma a_11).hi else (gD a_11.x.ns i).s.hi) /\ UW a a_13 /\ a_13.i < a_11.i else (HC a).p.lo = GG a.s /\ (HC a).p.hi = JR a.s /\ (HC a).base = KY a.s /\ (HC a).scale =
 IX a.s /\ (HC a).off = HF a.s /\ Vq a /\ Uo a /\ (HC a).ns.length = a_11.x.ns.length /\ (0 : Nat) + a_11.x.ns.length <= a_11.x.ns.length /\ (∀ (j : Nat), j < (HC a).ns.length -> (gD (HC a).ns j).mi =
 (VR a_11 j).mi /\ (gD (HC a).ns j).t.lo = (Mf a_11 j).lo /\ (gD (HC a).ns j).t.hi = (Mf a_11 j).hi /\ (gD (HC a).ns j).s.lo = (Lw a_11 j).lo /\ (gD (HC a).ns j).s.hi = (Lw
 a_11 j).hi) /\ Vw a /\ Ux a /\ Lg a /\ Qd a /\ Uq a /\ So a /\ (mE a).s.bs.length = a_11.x.s.bs.length /\ (∀ (i : Nat), UR i a -> gD (mE a).s.bs i = gD a_11.x.s.bs i)
 /\ (mE a).s.used = a_11.x.s.used /\ (mE a).s.mix = a_11.x.s.mix) := by kernel_rfl
end Go.Bal
