/- Package chart: charts and truths that are made of numbers. -/
import Derived.Test.YtdbjalgfomknhaaChV
import Derived.Test.YtdbjalgfomknhaaChK
set_option linter.unusedVariables false
set_option linter.unusedSimpArgs false
namespace Go.Bal
open Go Go.Sym Go.Proofs
structure MkI where
 s : Stm
 m : Int
 b : Bool
def dMkI (b : Bool) : List AVal -> Heap -> Option (MkI × List (Nat × Nat) × List Nat)
 | [.bptr p _, .d (.v (.int _ n)), .d (.v (.bool c))], H => match c == b, BLO H p with
  | true, some s => some (⟨s, n, b⟩, [(100, p)], [])
  | _, _ => none
 | _, _ => none
def gS1 (s : Stm) : Stm := Ce s 1 12
def gS2 (s : Stm) : Stm := Ce (gS1 s) (-50) 400
def gS3 (s : Stm) : Stm := AS (gS2 s) 12
def iW (s : Stm) : Stm := AS (gS3 s) 9
def lV (s : Stm) : Stm := AS (iW s) 6
def kA (s : Stm) : Stm := AS (lV s) 300
def KC (s : Stm) : Int := Lf s 1 12
def NN (s : Stm) : Int := wr (KC s + AV (iW s) 6)
def OA (s : Stm) : Int := Lf (gS1 s) (-50) 400
def MA (s : Stm) : Int := AV (gS2 s) 12
def LA (s : Stm) : Int := AV (gS3 s) 9
def hTm (s : Stm) : Int := AV (lV s) 300
structure MS where
 s : Stm
 pl : Int
 tm : Int
 ms : List Mk
 t : List Int
 st : List Int
 z : List Int
 deriving Inhabited
def Cl (x : MS) : Int := Lf x.s 1 30
def advA (a : MkI) (x : MS) : MS := ⟨Ce (Ce x.s 1 30) (wr (KC a.s * Cl x)) (wr (NN a.s * Cl x)), wr (x.pl + Cl x), wr (x.tm + Lf (Ce x.s 1 30) (wr (KC a.s * Cl x)) (wr (NN a.s * Cl x))), x.ms, x.t, x.st, x.z⟩
def cG (a : MkI) (x : MS) : MS := bif a.b then bif AV x.s 5 == 0 then ⟨AS (AS x.s 5) 400, x.pl, wr (x.tm + AV (AS x.s 5) 400), x.ms, x.t, x.st, x.z ++ [wr ((x.ms.length : Int) - 1)]⟩ else ⟨AS x.s 5, x.pl, x.tm, x.ms, x.t, x.st, x.z⟩ else x
def yAt (a : MkI) (x : MS) : Int := wr (OA a.s + wr (MA a.s * AV x.s 60))
def Wr (a : MkI) (x : MS) : MS := ⟨Ce (AS x.s 60) (wr (yAt a x - LA a.s)) (wr (yAt a x + LA a.s)), x.pl, x.tm, x.ms ++ [⟨x.pl, AV x.s 60⟩], x.t ++ [x.tm], x.st ++ [Lf (AS x.s 60) (wr (yAt a x - LA a.s)) (wr (yAt a x + LA a.s))], x.z⟩
def goM (a : MkI) (x : MS) : MS := bif decide (0 < x.ms.length) then cG a (advA a x) else x
def stpC (a : MkI) (x : MS) : MS := Wr a (goM a x)
def Ve (a : MkI) : Nat -> MS -> MS
 | 0, x => x
 | n + 1, x => Ve a n (stpC a x)
def mS0 (a : MkI) : MS := ⟨Ce (kA a.s) 1 a.m, 0, hTm a.s, [], [], [], []⟩
def mN (a : MkI) : Nat := (Lf (kA a.s) 1 a.m).toNat
def mS (a : MkI) : MS := Ve a (mN a) (mS0 a)
structure NSt where
 s : Stm
 ns : List Nt
 deriving Inhabited
def nS2 (s : Stm) : Stm := AS s 40
def nS3 (s : Stm) : Stm := AS (nS2 s) 40
def nS4 (s : Stm) : Stm := AS (nS3 s) 9
def nS5 (s : Stm) : Stm := AS (nS4 s) 9
def mkNt (a : MkI) (s : Stm) (i : Nat) : Nt := ⟨i, ⟨TM 0 (wr (gD (mS a).t i - AV s 40)), wr (gD (mS a).t i + AV (nS2 s) 40)⟩, ⟨wr (gD (mS a).st i - AV (nS3 s) 9), wr (gD (mS a).st i + AV (nS4 s) 9)⟩⟩
def addN (a : MkI) (b : Bool) (i : Nat) (x : NSt) : NSt := bif b then ⟨nS5 x.s, x.ns ++ [mkNt a x.s i]⟩ else x
def stpN (a : MkI) (i : Nat) (x : NSt) : NSt := addN a (AV x.s 2 == 0) i ⟨AS x.s 2, x.ns⟩
def mkN (a : MkI) : Nat -> Nat -> NSt -> NSt
 | 0, _, x => x
 | n + 1, i, x => mkN a n (i + 1) (stpN a i x)
def PT (a : MkI) : NSt := mkN a (mS a).ms.length 0 ⟨(mS a).s, []⟩
def swN (l : List Nt) (i k : Nat) : List Nt := (l.set i (gD l k)).set k (gD l i)
def shK : Nat -> NSt -> NSt
 | 0, x => x
 | j + 1, x => shK j ⟨AS x.s ((j : Int) + 2), swN x.ns (j + 1) (AV x.s ((j : Int) + 2)).toNat⟩
def mE (a : MkI) : NSt := shK ((PT a).ns.length - 1) (PT a)
def RK (a : MkI) : Cht := ⟨⟨KC a.s, NN a.s⟩, OA a.s, MA a.s, LA a.s, (mS a).ms, (mE a).ns⟩
def vC (a : MkI) : Tru := ⟨(mS a).t, (mS a).st, (mS a).z⟩
structure KS where
 k : Nat
 x : MS
 deriving Inhabited
structure KN where
 i : Nat
 x : NSt
 deriving Inhabited
def wO (a : MkI) : Prop := StmB 0 a.s /\ 1 <= a.m /\ a.m <= 14
def rowM (l : List Mk) : AObj := .row 2 l.length λ i => eMk (gD l i)
def rowN (l : List Nt) : AObj := .row 5 l.length λ i => eNt (gD l i)
def zCh : HCell := .live (.box [.int 0, .int 0, .int 0, .int 0, .int 0, .d UJ, .d UJ])
def zTr : HCell := .live (.box [.d UJ, .d UJ, .d UJ])
def chC (a : MkI) (m n : AVal) : HCell := .live (.box [.int (KC a.s), .int (NN a.s), .int (OA a.s), .int (MA a.s), .int (LA a.s), m, n])
def trC (t s z : AVal) : HCell := .live (.box [t, s, z])
def mdP : List (Nat × AVal) := [(0, .bptr 100 0), (6, .bptr 1000 0), (7, .bptr 1016 0), (8, .bptr 2160 0), (9, .bptr 4000 0)]
def mdS (b : Bool) (y : KS) : List (Nat × AVal) := mdP ++ [(2, .bool b), (10, .int y.x.pl), (11, .int y.x.tm), (12, .int y.k)]
def inv6 (a : MkI) (y : KS) : Prop := Ve a y.k y.x = mS a /\ (y.k : Int) <= a.m /\ StmB (7 + 7 * (a.m - y.k)) y.x.s /\ ((y.x.ms.length : Int) + y.k <= a.m /\ y.x.t.length = y.x.ms.length /\ y.x.st.length = y.x.ms.length /\ (y.x.z = [] ∨ y.x.z.length + 1 <= y.x.ms.length))
def mdO (y : KS) : List (Nat × HCell) := [(301, .live (rowM y.x.ms)), (302, .live (rowI y.x.t)), (303, .live (rowI y.x.st))]
def ownM (y : KS) : AVal := .own 301 2 0 y.x.ms.length
def ownT (y : KS) (z : AVal) : HCell := trC (.own 302 1 0 y.x.t.length) (.own 303 1 0 y.x.st.length) z
def hpN (a : MkI) (y : KS) : List (Nat × HCell) := [(100, Z2 y.x.s), (1000, zCh), (1016, zTr), (2160, chC a (.d UJ) (.d UJ)), (4000, zTr)]
def hpO (a : MkI) (y : KS) : List (Nat × HCell) := [(100, Z2 y.x.s), (1000, zCh), (1016, zTr), (2160, chC a (ownM y) (.d UJ)), (4000, ownT y (.d UJ))] ++ mdO y
def hpP (a : MkI) (y : KS) : List (Nat × HCell) := [(100, Z2 y.x.s), (1000, zCh), (1016, zTr), (2160, chC a (ownM y) (.d UJ)), (4000, ownT y (.own 304 1 0 y.x.z.length))] ++ mdO y ++ [(304, .live (rowI y.x.z))]
def md6n (b : Bool) (a : MkI) : Shape := { α := KS, dflt := default, T := λ y => ⟨mdS b y, hpN a y⟩, inv := λ y => inv6 a y /\ 1 <= y.k /\ y.x.ms = [] /\ y.x.z = [], meas := λ y => 100, tag := [0] }
def md6o (b : Bool) (a : MkI) : Shape := { α := KS, dflt := default, T := λ y => ⟨mdS b y, hpO a y⟩, inv := λ y => inv6 a y /\ 1 <= y.x.ms.length /\ y.x.z = [], meas := λ y => y.k + 20, again := [(301, 18064), (302, 18144), (303, 18368)], tag := [1] }
def md6p (b : Bool) (a : MkI) : Shape := { α := KS, dflt := default, T := λ y => ⟨mdS b y, hpP a y⟩, inv := λ y => inv6 a y /\ 1 <= y.x.ms.length /\ 1 <= y.x.z.length, meas := λ y => y.k, again := [(301, 18064), (302, 18144), (303, 18368)], tag := [2] }
def BVK (a : MkI) (y : KS) : Prop := Ve a (y.k - 1) (Wr a y.x) = mS a /\ (1 <= y.k /\ (y.k : Int) <= a.m) /\ StmB (11 + 7 * (a.m - y.k)) y.x.s /\ ((y.x.ms.length : Int) + y.k <= a.m /\ y.x.t.length = y.x.ms.length /\ y.x.st.length = y.x.ms.length /\ y.x.z.length <= y.x.ms.length)
def c15n (b : Bool) (a : MkI) (m : Nat) : Shape := { α := KS, dflt := default, T := λ y => ⟨mdS b y, hpN a y⟩, inv := λ y => BVK a y /\ m = 100 /\ y.x.ms = [] /\ y.x.z = [], meas := λ _ => 0 }
def c15o (b : Bool) (a : MkI) (m : Nat) : Shape := { α := KS, dflt := default, T := λ y => ⟨mdS b y, hpO a y⟩, inv := λ y => BVK a y /\ y.k + 20 <= m /\ 1 <= y.x.ms.length /\ y.x.z = [], meas := λ _ => 0 }
def c15p (b : Bool) (a : MkI) (m : Nat) (f : List (Nat × Nat)) : Shape := { α := KS, dflt := default, T := λ y => ⟨mdS b y, hpP a y⟩, inv := λ y => BVK a y /\ y.k <= m /\ 1 <= y.x.ms.length /\ 1 <= y.x.z.length, meas := λ _ => 0, first := f }
def c15 (b : Bool) (a : MkI) (m : Nat) : Nat -> List Shape
 | 0 => [c15n b a m]
 | 1 => bif b then [c15o b a m, c15p b a m [(304, 14112)]] else [c15o b a m]
 | _ => [c15p b a m [(304, 14112)], c15p b a m []]
def mdH (a : MkI) (s : Stm) (n : AVal) : List (Nat × HCell) := [(100, Z2 s), (1000, zCh), (1016, zTr), (2160, chC a (.d (eMks (mS a).ms)) n), (4000, trC (.d (GQ (mS a).t)) (.d (GQ (mS a).st)) (.d (GQ (mS a).z)))]
def fin6 (a : MkI) : Prop := inv6 a ⟨0, mS a⟩
def md18 (a : MkI) (z : List Nat) : Shape := { α := One, dflt := default, T := λ _ => ⟨mdP, mdH a (mS a).s (.d UJ)⟩, inv := λ _ => fin6 a, meas := λ _ => 0, ffz := z }
def CHL (a : MkI) (y : KN) : Prop := fin6 a /\ y.i <= (mS a).ms.length /\ StmB (7 + 7 * a.m + 5 * y.i) y.x.s /\ mkN a ((mS a).ms.length - y.i) y.i y.x = PT a /\ y.x.ns.length <= y.i
def CMA (a : MkI) : Shape := { α := KN, dflt := default, T := λ y => ⟨mdP ++ [(16, .int y.i)], mdH a y.x.s (.d UJ)⟩, inv := λ y => CHL a y /\ y.x.ns = [], meas := λ y => 100 - y.i, tag := [0] }
def CMI (a : MkI) : Shape := { α := KN, dflt := default, T := λ y => ⟨mdP ++ [(16, .int y.i)], mdH a y.x.s (.own 305 5 0 y.x.ns.length) ++ [(305, .live (rowN y.x.ns))]⟩, inv := λ y => CHL a y /\ 1 <= y.x.ns.length, meas := λ y => 100 - y.i, tag := [1] }
structure KNb where
 i : Nat
 x : NSt
 b : Bool
 deriving Inhabited
def CGD (a : MkI) (m : Nat) (y : KNb) : Prop := fin6 a /\ (y.i < (mS a).ms.length /\ 100 - y.i = m) /\ StmB (8 + 7 * a.m + 5 * y.i) y.x.s /\ mkN a ((mS a).ms.length - (y.i + 1)) (y.i + 1) (addN a y.b y.i y.x) = PT a /\ y.x.ns.length <= y.i
def c22n (a : MkI) (m : Nat) : Shape := { α := KNb, dflt := default, T := λ y => ⟨mdP ++ [(16, .int y.i), (142, .bool y.b)], mdH a y.x.s (.d UJ)⟩, inv := λ y => CGD a m y /\ y.x.ns = [], meas := λ _ => 0 }
def c22o (a : MkI) (m : Nat) : Shape := { α := KNb, dflt := default, T := λ y => ⟨mdP ++ [(16, .int y.i), (142, .bool y.b)], mdH a y.x.s (.own 305 5 0 y.x.ns.length) ++ [(305, .live (rowN y.x.ns))]⟩, inv := λ y => CGD a m y /\ 1 <= y.x.ns.length, meas := λ _ => 0 }
def CGT (a : MkI) (m : Nat) (y : KN) : Prop := fin6 a /\ (y.i < (mS a).ms.length /\ 100 - y.i = m) /\ StmB (12 + 7 * a.m + 5 * y.i) y.x.s /\ mkN a ((mS a).ms.length - (y.i + 1)) (y.i + 1) y.x = PT a /\ y.x.ns.length <= y.i + 1
def c20n (a : MkI) (m : Nat) : Shape := { α := KN, dflt := default, T := λ y => ⟨mdP ++ [(16, .int y.i)], mdH a y.x.s (.d UJ)⟩, inv := λ y => CGT a m y /\ y.x.ns = [], meas := λ _ => 0 }
def c20o (a : MkI) (m : Nat) (f : List (Nat × Nat)) : Shape := { α := KN, dflt := default, T := λ y => ⟨mdP ++ [(16, .int y.i)], mdH a y.x.s (.own 305 5 0 y.x.ns.length) ++ [(305, .live (rowN y.x.ns))]⟩, inv := λ y => CGT a m y /\ 1 <= y.x.ns.length, meas := λ _ => 0, first := f }
def CMX (a : MkI) : Shape := { α := One, dflt := default, T := λ _ => ⟨mdP, mdH a (PT a).s (.d UJ)⟩, inv := λ _ => fin6 a /\ (PT a).ns = [], meas := λ _ => 0, tag := [0] }
def CLZ (a : MkI) : Shape := { α := One, dflt := default, T := λ _ => ⟨mdP, mdH a (PT a).s (.own 305 5 0 (PT a).ns.length) ++ [(305, .live (rowN (PT a).ns))]⟩, inv := λ _ => fin6 a /\ StmB (7 + 7 * a.m + 5 * a.m) (PT a).s /\ (1 <= (PT a).ns.length /\ ((PT a).ns.length : Int) <= a.m), meas := λ _ => 0, tag := [1] }
def CNZ (a : MkI) (y : KN) : Prop := fin6 a /\ y.i < y.x.ns.length /\ StmB (7 + 7 * a.m + 5 * a.m + a.m - y.i) y.x.s /\ shK y.i y.x = mE a /\ (y.x.ns.length : Int) <= a.m
def COJ (a : MkI) : Shape := { α := One, dflt := default, T := λ _ => ⟨mdP ++ [(17, .int (-1))], mdH a (mE a).s (.d UJ)⟩, inv := λ y => (mE a).ns = [], meas := λ y => 100 }
def CNO (a : MkI) : Shape := { α := KN, dflt := default, T := λ y => ⟨mdP ++ [(17, .int y.i)], mdH a y.x.s (.own 305 5 0 y.x.ns.length) ++ [(305, .live (rowN y.x.ns))]⟩, inv := λ y => CNZ a y, meas := λ y => y.i }
def hdP (b : Bool) (a : MkI) : List (Nat × AVal) := [(0, .bptr 100 0), (1, .int a.m), (2, .bool b), (6, .bptr 1000 0), (7, .bptr 1016 0), (8, .bptr 2160 0)]
def ch2 (b : Bool) (a : MkI) : Shape := { α := One, dflt := default, T := λ _ => ⟨hdP b a, [(100, Z2 (iW a.s)), (1000, zCh), (1016, zTr), (2160, .live (.box [.int (KC a.s), .int 0, .int (OA a.s), .int (MA a.s), .int (LA a.s), .d UJ, .d UJ]))]⟩, inv := λ _ => StmB 4 (iW a.s), meas := λ _ => 0 }
def ch3 (b : Bool) (a : MkI) : Shape := { α := One, dflt := default, T := λ _ => ⟨hdP b a, [(100, Z2 (lV a.s)), (1000, zCh), (1016, zTr), (2160, chC a (.d UJ) (.d UJ))]⟩, inv := λ _ => StmB 5 (lV a.s), meas := λ _ => 0 }
def ch5 (b : Bool) (a : MkI) : Shape := { α := One, dflt := default, T := λ _ => ⟨hdP b a ++ [(9, .bptr 4000 0), (10, .int 0), (11, .int (hTm a.s))], [(100, Z2 (kA a.s)), (1000, zCh), (1016, zTr), (2160, chC a (.d UJ) (.d UJ)), (4000, zTr)]⟩, inv := λ _ => StmB 6 (kA a.s), meas := λ _ => 0 }
def CFB (a : MkI) (y : KS) : Prop := Ve a (y.k - 1) (Wr a (cG a y.x)) = mS a /\ (1 <= y.k /\ (y.k : Int) <= a.m) /\ StmB (9 + 7 * (a.m - y.k)) y.x.s /\ ((y.x.ms.length : Int) + y.k <= a.m /\ y.x.t.length = y.x.ms.length /\ y.x.st.length = y.x.ms.length /\ y.x.z.length + 1 <= y.x.ms.length)
def c12o (b : Bool) (a : MkI) (m : Nat) : Shape := { α := KS, dflt := default, T := λ y => ⟨mdS b y, hpO a y⟩, inv := λ y => CFB a y /\ y.k + 20 <= m /\ 1 <= y.x.ms.length /\ y.x.z = [], meas := λ _ => 0 }
def c12p (b : Bool) (a : MkI) (m : Nat) : Shape := { α := KS, dflt := default, T := λ y => ⟨mdS b y, hpP a y⟩, inv := λ y => CFB a y /\ y.k <= m /\ 1 <= y.x.ms.length /\ 1 <= y.x.z.length, meas := λ _ => 0 }
def lE (b : Bool) : Ctr := { α := MkI, xs := λ a => [.bptr 100 0, .int a.m, .bool b], L := λ a => [(100, stmO a.s)], val := λ a => .tup [.d (Rc (RK a)), .d (eTru (vC a))], keep := λ a => [(100, Z2 (mE a).s)], pre := λ a => [wO a /\ a.b = b] }
def BHE (b : Bool) (a : MkI) : Ann := { ann 217 [(AYW, C_Next.spec BGB), (AZI, C_Within.spec BJM)] with E := [100], md := λ id => if id = 12 then some (λ k => if k = 2 ∨ k = 3 ∨ k = 4 then (bif b then 8 else 9) else 0) else none, mt := λ id => id == 13 || id == 17 || id == 22, loops := λ id => if id = 6 then (bif b then some [md6n b a, md6o b a, md6p b a] else some [md6n b a, md6o b a]) else if id = 19 then some [CMA a, CMI a] else none, inner := λ gs id => if id = 24 then (if gs.getD 0 0 = 0 then some [COJ a] else some [CNO a]) else none, cut := λ id => if id = 2 then some [ch2 b a] else if id = 3 then some [ch3 b a] else if id = 5 then some [ch5 b a] else if id = 18 then (bif b then some [md18 a [301, 302, 303], md18 a [301, 302, 303, 304]] else some [md18 a [301, 302, 303]]) else if id = 23 then some [CMX a, CLZ a] else none, cutIn := λ gs id => if id = 15 then some (c15 b a (gs.getD 0 0) (gs.getD 1 0)) else if id = 12 then (if gs.getD 1 0 = 1 then some [c12o b a (gs.getD 0 0)] else some [c12p b a (gs.getD 0 0)]) else if id = 22 then (if gs.getD 1 0 = 0 then some [c22n a (gs.getD 0 0)] else some [c22o a (gs.getD 0 0)]) else if id = 20 then (if gs.getD 1 0 = 0 then some [c20n a (gs.getD 0 0), c20o a (gs.getD 0 0) [(305, 23640)]] else some [c20o a (gs.getD 0 0) [(305, 23640)], c20o a (gs.getD 0 0) []]) else none }
end Go.Bal

namespace Go.Bal
open Go Go.Sym Go.Proofs
theorem BOK (s : Stm) : Stm.mk s.bs s.used s.mix = s := rfl
theorem IB {K : Int} {s : Stm} (h : StmB K s) (hK : K <= 1000000000000000) (lo hi : Int) : StmB (K + 1) (Ce s lo hi) := h.next hK _
theorem AYG {a : MkI} (h : wO a) : StmB 1 (gS1 a.s) /\ StmB 2 (gS2 a.s) /\ StmB 3 (gS3 a.s) /\ StmB 4 (iW a.s) /\ StmB 5 (lV a.s) /\ StmB 6 (kA a.s) := by
 have b1 : StmB 1 (gS1 a.s) := (IB h.1 (by omega) 1 12).mono (by omega)
 have b2 : StmB 2 (gS2 a.s) := (IB b1 (by omega) (-50) 400).mono (by omega)
 have b3 : StmB 3 (gS3 a.s) := (b2.next (by omega) 12).mono (by omega)
 have b4 : StmB 4 (iW a.s) := (b3.next (by omega) 9).mono (by omega)
 have b5 : StmB 5 (lV a.s) := (b4.next (by omega) 6).mono (by omega)
 exact ⟨b1, b2, b3, b4, b5, (b5.next (by omega) 300).mono (by omega)⟩
theorem BPO {a : MkI} (h : wO a) : (mN a : Int) = Lf (kA a.s) 1 a.m /\ 1 <= mN a /\ (mN a : Int) <= a.m := by
 obtain ⟨_, _, _, _, _, b6⟩ := AYG h
 obtain ⟨_, m1, m2⟩ := h
 have := AGM b6 (by omega) (lo := 1) (hi := a.m) (by omega) m1 (by omega)
 unfold mN; omega
theorem go_0 {a : MkI} {x : MS} (h : x.ms = []) : goM a x = x := by unfold goM; rw [h]; rfl
theorem go_1 {a : MkI} {x : MS} (h : 0 < x.ms.length) : goM a x = cG a (advA a x) := by unfold goM; rw [decide_eq_true h]; rfl
theorem ASC {a : MkI} {k : Nat} {x : MS} (h : 0 < k) : Ve a k x = Ve a (k - 1) (Wr a (goM a x)) := by
 obtain ⟨n, rfl⟩ : ∃ n, k = n + 1 := ⟨k - 1, by omega⟩
 rfl
theorem n_lt {i n k : Nat} (h : (bif decide ((i : Int) < n) then decide ((k : Int) < 20) else false) = true) : i < n := by
 cases hd : decide ((i : Int) < n) with
 | false => rw [hd] at h; cases h
 | true => have := of_decide_eq_true hd; omega
theorem n_ge {i n k : Nat} (hk : k < 20) (h : (bif decide ((i : Int) < n) then decide ((k : Int) < 20) else false) = false) : ¬ i < n := by
 intro hi
 rw [decide_eq_true (show (i : Int) < n by omega), decide_eq_true (show (k : Int) < 20 by omega)] at h; cases h
theorem BPC {a : MkI} {i : Nat} {x : NSt} (h : i < (mS a).ms.length) : mkN a ((mS a).ms.length - i) i x = mkN a ((mS a).ms.length - (i + 1)) (i + 1) (addN a (AV x.s 2 == 0) i ⟨AS x.s 2, x.ns⟩) := by
 obtain ⟨n, hn⟩ : ∃ n, (mS a).ms.length - i = n + 1 := ⟨(mS a).ms.length - i - 1, by omega⟩
 rw [hn, show (mS a).ms.length - (i + 1) = n by omega]; rfl
theorem Fv (l : List Nt) (i k : Nat) : (swN l i k).length = l.length := by simp [swN]
theorem BRK {l : List Nt} {j i : Nat} {x : Nt} (hj : j < l.length) : gD (l.set j x) i = bif decide (i = j) then x else gD l i := by
 unfold gD
 rw [List.getD_eq_getElem?_getD, List.getD_eq_getElem?_getD, List.getElem?_set]
 by_cases h : i = j
 ·subst h; simp [hj]
 ·simp [h, Ne.symm h]
theorem BMY {l : List Nt} {i k : Nat} (hi : i < l.length) (hk : k < l.length) {t : Nat} : gD (swN l i k) t = bif decide (t = k) then gD l i else bif decide (t = i) then gD l k else gD l t := by
 unfold swN
 rw [BRK (by simpa using hk), BRK hi]
end Go.Bal
