/- Package rating: ratings and gaugings that are made of numbers. -/
import Derived.Test.YtoihhodbkimedaaRatX
set_option linter.unusedVariables false
set_option linter.unusedSimpArgs false
namespace Go.Bal
open Go Go.Sym Go.Proofs
structure MB where
 s : Stm
 a : Int
 b : List Int
 deriving Inhabited
def stpB (x : MB) : MB := ⟨witS x.s 5 60, wr (x.a + witV x.s 5 60), x.b ++ [wr (x.a + witV x.s 5 60)]⟩
def mkB : Nat -> MB -> MB
 | 0, x => x
 | n + 1, x => mkB n (stpB x)
def mB (s : Stm) : MB := mkB (nextV s 3).toNat ⟨nextS s 3, 0, []⟩
structure ML where
 s : Stm
 l : List Ln
 deriving Inhabited
def lnS1 (s : Stm) : Stm := nextS s 40
def lnS2 (s : Stm) : Stm := nextS (lnS1 s) 60
def lnS3 (s : Stm) : Stm := witS (lnS2 s) 1 60
def lnS4 (s : Stm) : Stm := nextS (lnS3 s) 200
def mkLn (s : Stm) : Ln := ⟨nextV s 40, nextV (lnS1 s) 60, wr (nextV s 40 + witV (lnS2 s) 1 60), wr (nextV (lnS1 s) 60 + nextV (lnS3 s) 200)⟩
def stpL (x : ML) : ML := ⟨lnS4 x.s, x.l ++ [mkLn x.s]⟩
def mkL : Nat -> ML -> ML
 | 0, x => x
 | n + 1, x => mkL n (stpL x)
def mL (s : Stm) : ML := mkL ((mB s).b.length + 1) ⟨(mB s).s, []⟩
structure MG where
 s : Stm
 l : List Gau
 deriving Inhabited
def ptK (b : List Int) (t : Int) : Nat -> Nat -> Nat
 | 0, k => k
 | n + 1, k => bif decide (gD b k <= t) then ptK b t n (k + 1) else k
def ptM (b : List Int) (t : Int) : Nat := ptK b t b.length 0
def upG (x : Ln) (t : Int) : Int := wr (wr (x.a1 * wr (x.b0 - x.a0)) + wr (wr (x.b1 - x.a1) * wr (t - x.a0)))
def wdG (x : Ln) : Int := wr (x.b0 - x.a0)
def vG (x : Ln) (t : Int) : Int := wr ((upG x t).tdiv (wdG x))
def mxG (n : Int) : Int := maxI 0 n
def gauG (x : Ln) (s : Stm) (t : Int) : Gau := ⟨t, mxG (wr (vG x t - nextV s 6)), wr (vG x t + witV (nextS s 6) 1 6)⟩
def stpG (x : Ln) (s : Stm) (t : Int) (l : List Gau) : MG := bif (bif decide (upG x t < 0) then true else decide (upG x t > wr (1000 * wdG x))) then ⟨s, l⟩ else ⟨witS (nextS s 6) 1 6, l ++ [gauG x s t]⟩
def mkG (b : List Int) (ls : List Ln) (n : Int) : Nat -> MG -> MG
 | 0, x => x
 | k + 1, x => mkG b ls n k (stpG (gD ls (ptM b (nextV x.s n))) (nextS x.s n) (nextV x.s n) x.l)
structure MkI where
 s : Stm
 m : Int
def hiG (a : MkI) : Int := wr ((mB a.s).a + 80)
def mG0 (a : MkI) : MG := ⟨witS (mL a.s).s 1 a.m, []⟩
def mG (a : MkI) : MG := mkG (mB a.s).b (mL a.s).l (hiG a) (witV (mL a.s).s 1 a.m).toNat (mG0 a)
def mdG (a : MkI) : List Gau := bif decide ((mG a).l.length = 0) then [⟨1, 1, 1⟩] else (mG a).l
def mdR (a : MkI) : Rtg := bif decide ((mG a).l.length = 0) then ⟨[], [⟨0, 0, 1, 1⟩]⟩ else ⟨(mB a.s).b, (mL a.s).l⟩
def okMk (x : Ln) : Prop := (0 <= x.a0 /\ x.a0 <= 39) /\ (1 <= x.b0 - x.a0 /\ x.b0 - x.a0 <= 60) /\ (0 <= x.a1 /\ x.a1 <= 59) /\ 0 <= x.b1 - x.a1 /\ x.b1 - x.a1 <= 199
structure KB where
 k : Nat
 x : MB
 deriving Inhabited
structure KL where
 k : Nat
 x : ML
 deriving Inhabited
structure KG where
 k : Nat
 x : MG
 deriving Inhabited
structure KP where
 k : Nat
 x : MG
 t : Int
 p : Nat
 deriving Inhabited
def mdS (a : MkI) : List (Nat × AVal) := [(0, .bptr 100 0), (1, .int a.m), (5, .bptr 1016 0), (6, .bptr 2000 0)]
def rtB (b l : AVal) : HCell := .live (.box [b, l])
def mdH (s : Stm) (b l : AVal) : List (Nat × HCell) := [(100, stmH s), (1016, zRtg), (2000, rtB b l)]
def preM (a : MkI) : Prop := StmB 0 a.s /\ 1 <= a.m /\ a.m <= 100
def inv4 (a : MkI) (y : KB) : Prop := y.k <= 2 /\ StmB (3 - y.k) y.x.s /\ mkB y.k y.x = mB a.s /\ (y.x.b.length : Int) + y.k <= 2 /\ 0 <= y.x.a /\ y.x.a <= 60 * (2 - y.k)
def md4n (a : MkI) : Shape := { α := KB, dflt := default, T := λ y => ⟨mdS a ++ [(7, .int y.x.a), (8, .int y.k)], mdH y.x.s (.d nilL) (.d nilL)⟩, inv := λ y => inv4 a y /\ y.x.b = [], meas := λ y => y.k + 1 }
def md4o (a : MkI) : Shape := { α := KB, dflt := default, T := λ y => ⟨mdS a ++ [(7, .int y.x.a), (8, .int y.k)], mdH y.x.s (.own 301 1 0 y.x.b.length) (.d nilL) ++ [(301, .live (rowI y.x.b))]⟩, inv := λ y => inv4 a y, meas := λ y => y.k, again := [(301, 8064)] }
def md8 (a : MkI) : Shape := { α := One, dflt := default, T := λ _ => ⟨mdS a ++ [(7, .int (mB a.s).a)], mdH (mB a.s).s (.d (eIntsL (mB a.s).b)) (.d nilL)⟩, inv := λ _ => inv4 a ⟨0, mB a.s⟩, meas := λ _ => 0, ffz := [301] }
def inv9 (a : MkI) (y : KL) : Prop := inv4 a ⟨0, mB a.s⟩ /\ y.k <= (mB a.s).b.length + 1 /\ StmB (3 + 4 * y.k) y.x.s /\ mkL ((mB a.s).b.length + 1 - y.k) y.x = mL a.s /\ y.x.l.length = y.k /\ ∀ z ∈ y.x.l, okMk z
def md9S (a : MkI) (k : Nat) : List (Nat × AVal) := mdS a ++ [(7, .int (mB a.s).a), (9, .int k)]
def md9n (a : MkI) : Shape := { α := KL, dflt := default, T := λ y => ⟨md9S a y.k, mdH y.x.s (.d (eIntsL (mB a.s).b)) (.d nilL)⟩, inv := λ y => inv9 a y /\ y.k = 0, meas := λ y => (mB a.s).b.length + 3 }
def md9o (a : MkI) : Shape := { α := KL, dflt := default, T := λ y => ⟨md9S a y.k, mdH y.x.s (.d (eIntsL (mB a.s).b)) (.own 302 4 0 y.x.l.length) ++ [(302, .live (rowL y.x.l))]⟩, inv := λ y => inv9 a y, meas := λ y => (mB a.s).b.length + 1 - y.k, again := [(302, 14064)] }
def mdHG (a : MkI) (s : Stm) : List (Nat × HCell) := mdH s (.d (eIntsL (mB a.s).b)) (.d (eLns (mL a.s).l))
def md14 (a : MkI) : Shape := { α := One, dflt := default, T := λ _ => ⟨mdS a ++ [(7, .int (mB a.s).a)], mdHG a (mL a.s).s⟩, inv := λ _ => inv9 a ⟨(mB a.s).b.length + 1, mL a.s⟩, meas := λ _ => 0, ffz := [302] }
def mdSG (a : MkI) (k : Nat) (v : AVal) : List (Nat × AVal) := [(0, .bptr 100 0), (5, .bptr 1016 0), (6, .bptr 2000 0), (7, .int (mB a.s).a), (11, v), (12, .int k)]
def fin9 (a : MkI) : Prop := inv9 a ⟨(mB a.s).b.length + 1, mL a.s⟩
def mkGa (a : MkI) (k : Nat) (x : MG) : MG := mkG (mB a.s).b (mL a.s).l (hiG a) k x
def inv16 (a : MkI) (k : Nat) (x : MG) : Prop := fin9 a /\ (k : Int) <= a.m /\ StmB (16 + 3 * (a.m - k)) x.s /\ mkGa a k x = mG a /\ (x.l.length : Int) + k <= a.m
def md16n (a : MkI) : Shape := { α := KG, dflt := default, T := λ y => ⟨mdSG a y.k (.d nilL), mdHG a y.x.s⟩, inv := λ y => inv16 a y.k y.x /\ y.x.l = [], meas := λ y => y.k, tag := [0] }
def md16o (a : MkI) : Shape := { α := KG, dflt := default, T := λ y => ⟨mdSG a y.k (.own 303 3 0 y.x.l.length), mdHG a y.x.s ++ [(303, .live (rowG y.x.l))]⟩, inv := λ y => inv16 a y.k y.x /\ 0 < y.x.l.length, meas := λ y => y.k, tag := [1] }
def lnP (a : MkI) (t : Int) : Ln := gD (mL a.s).l (ptM (mB a.s).b t)
def inv20 (a : MkI) (m : Nat) (y : KP) : Prop := fin9 a /\ y.k = m /\ 1 <= y.k /\ (y.k : Int) <= a.m /\ StmB (17 + 3 * (a.m - y.k)) y.x.s /\ mkGa a (y.k - 1) (stpG (lnP a y.t) y.x.s y.t y.x.l) = mG a /\ (y.x.l.length : Int) + y.k <= a.m /\ (0 <= y.t /\ y.t <= 199) /\ y.p <= (mB a.s).b.length /\ ptM (mB a.s).b y.t = ptK (mB a.s).b y.t ((mB a.s).b.length - y.p) y.p
def gauB (t : Int) : HCell := .live (.box [.int t, .int 0, .int 0])
def md20n (a : MkI) (m : Nat) : Shape := { α := KP, dflt := default, T := λ y => ⟨mdSG a y.k (.d nilL) ++ [(13, .bptr 204 0), (14, .int y.p)], mdHG a y.x.s ++ [(204, gauB y.t)]⟩, inv := λ y => inv20 a m y /\ y.x.l = [], meas := λ y => (mB a.s).b.length - y.p, first := [(204, 19080)] }
def md20o (a : MkI) (m : Nat) : Shape := { α := KP, dflt := default, T := λ y => ⟨mdSG a y.k (.own 303 3 0 y.x.l.length) ++ [(13, .bptr 204 0), (14, .int y.p)], mdHG a y.x.s ++ [(204, gauB y.t), (303, .live (rowG y.x.l))]⟩, inv := λ y => inv20 a m y /\ 0 < y.x.l.length, meas := λ y => (mB a.s).b.length - y.p, first := [(204, 19080)] }
def inv17m (a : MkI) (m : Nat) (y : KG) : Prop := y.k = m /\ 1 <= y.k /\ inv16 a (y.k - 1) y.x
def md17n (a : MkI) (m : Nat) : Shape := { α := KG, dflt := default, T := λ y => ⟨mdSG a y.k (.d nilL), mdHG a y.x.s⟩, inv := λ y => inv17m a m y /\ y.x.l = [], meas := λ _ => 0 }
def md17o (a : MkI) (m : Nat) (f : List (Nat × Nat)) : Shape := { α := KG, dflt := default, T := λ y => ⟨mdSG a y.k (.own 303 3 0 y.x.l.length), mdHG a y.x.s ++ [(303, .live (rowG y.x.l))]⟩, inv := λ y => inv17m a m y /\ 0 < y.x.l.length, meas := λ _ => 0, first := f }
def dMkI : List AVal -> Heap -> Option (MkI × List (Nat × Nat) × List Nat)
 | [.bptr p _, .d (.v (.int _ n))], H => match decStm H p with
  | some s => some (⟨s, n⟩, [(100, p)], [])
  | none => none
 | _, _ => none
def C_Made : Ctr := { α := MkI, xs := λ a => [.bptr 100 0, .int a.m], L := λ a => [(100, stmO a.s)], val := λ a => .tup [.d (eGaus (mdG a)), .d (eRtg (mdR a))], keep := λ a => [(100, stmH (mG a).s)], pre := λ a => [preM a /\ True] }
def A_Made (a : MkI) : Ann := { ann 169 [(n_Next, C_Next.spec d_Next), (n_Within, C_Within.spec d_Within)] with E := [100], mt := λ id => id == 7 || id == 13 || id == 28, md := λ id => if id = 30 then some (λ k => if k = 2 then 4 else 0) else if id = 31 then some (λ k => if k = 3 then 4 else 0) else none, loops := λ id => if id = 4 then some [md4n a, md4o a] else if id = 9 then some [md9n a, md9o a] else if id = 16 then some [md16n a, md16o a] else none, inner := λ gs id => if id = 20 then (if gs.getD 1 0 = 0 then some [md20n a (gs.getD 0 0)] else some [md20o a (gs.getD 0 0)]) else none, cut := λ id => if id = 8 then some [md8 a] else if id = 14 then some [md14 a] else none, cutIn := λ gs id => if id = 17 then some [md17n a (gs.getD 0 0), md17o a (gs.getD 0 0) [(303, 29048)], md17o a (gs.getD 0 0) []] else none }
def V_Made (a : MkI) : Prop := fnVC Try.prog (A_Made a) F_Made (bodyOf F_Made) (C_Made.xs a) (heapOf (C_Made.L a)) (C_Made.val a) (C_Made.keep a) [] [303]
abbrev z_Made_0 (a : MkI) : List Int := rng a.s.bs.length λ (i : Nat) => gD a.s.bs i
abbrev z_Made_1 (a : MkI) : Nat := (z_Made_0 a).length
abbrev z_Made_2 (a : MkI) : Stm := Stm.mk (z_Made_0 a) a.s.used a.s.mix
abbrev z_Made_3 (a : MkI) : Stm := nextS (z_Made_2 a) (3 : Int)
abbrev z_Made_4 (a : MkI) : List Int := (z_Made_3 a).bs
abbrev z_Made_5 (i : Nat) (a : KB) : Prop := i < a.x.s.bs.length
abbrev z_Made_6 : Prop := (0 : Nat) = (0 : Nat)
abbrev z_Made_7 : Prop := ∀ (i : Nat), i < (0 : Nat) -> false = false
abbrev z_Made_8 : Prop := z_Made_6 /\ z_Made_7
abbrev z_Made_9 (a : KB) (a1 : MkI) : Prop := a.k <= (2 : Nat) /\ StmB ((3 : Int) - (↑a.k : Int)) a.x.s /\ mkB a.k a.x = mB a1.s /\ (↑a.x.b.length : Int) + (↑a.k : Int) <= (2 : Int) /\ (0 : Int) <= a.x.a /\ a.x.a <= (60 : Int) *
 ((2 : Int) - (↑a.k : Int))
abbrev z_Made_10 (a : KB) (a1 : MkI) : Prop := z_Made_9 a a1 /\ a.x.b = []
abbrev z_Made_11 (a : KB) : Bool := decide ((↑a.k : Int) > (0 : Int))
abbrev z_Made_12 : Prop := (60 : Int) = Int.ofNat (60 : Nat)
abbrev z_Made_13 (a : KB) : List Int := rng a.x.s.bs.length λ (i : Nat) => gD a.x.s.bs i
abbrev z_Made_14 (a : KB) : Nat := (z_Made_13 a).length
abbrev z_Made_15 (a : KB) : Prop := (5 : Int) = Int.ofNat (5 : Nat) /\ z_Made_12 /\ z_Made_14 a = a.x.s.bs.length /\ (∀ (i : Nat), i < z_Made_14 a -> gD (z_Made_13 a) i = gD a.x.s.bs i) /\ a.x.s.used = a.x.s.used /\ a.x.s.mix
 = a.x.s.mix /\ (a.x.s.used - (0 : Int)).NonNeg
abbrev z_Made_16 : Prop := (0 : Nat) < (0 : Nat)
abbrev z_Made_17 : Prop := (1 : Nat) <= (1 : Nat)
abbrev z_Made_18 : Prop := (0 : Nat) < (1 : Nat)
abbrev z_Made_19 : Prop := (1 : Nat) = (1 : Nat)
abbrev z_Made_20 : Prop := z_Made_17 /\ (z_Made_18 -> z_Made_19)
abbrev z_Made_21 : Prop := true = true -> z_Made_18
abbrev z_Made_22 : Prop := (1 : Nat) <= (9223372036854775807 : Nat)
abbrev z_Made_23 (a : KB) : Stm := Stm.mk (z_Made_13 a) a.x.s.used a.x.s.mix
abbrev z_Made_24 (a : KB) : Int := IntKind.i64.wrap (a.x.a + witV (z_Made_23 a) (5 : Int) (60 : Int))
abbrev z_Made_25 (a : KB) (a1 : KB) : Prop := a.x.a = z_Made_24 a1
abbrev z_Made_26 (a : KB) (a1 : KB) : Prop := (↑a.k : Int) = IntKind.i64.wrap ((↑a1.k : Int) - (1 : Int))
abbrev z_Made_27 (a : KB) : Stm := witS (z_Made_23 a) (5 : Int) (60 : Int)
abbrev z_Made_28 (a : KB) : List Int := (z_Made_27 a).bs
abbrev z_Made_29 (a : KB) (a1 : KB) : Prop := a.x.s.bs.length = (z_Made_28 a1).length
abbrev z_Made_30 (a : KB) (a1 : KB) : Prop := ∀ (i : Nat), z_Made_5 i a -> gD a.x.s.bs i = gD (z_Made_28 a1) i
abbrev z_Made_31 (a : KB) (a1 : KB) : Prop := a.x.s.used = (z_Made_27 a1).used
abbrev z_Made_32 (a : KB) (a1 : KB) : Prop := a.x.s.mix = (z_Made_27 a1).mix
abbrev z_Made_33 (a : KB) : Prop := a.x.b.length = (1 : Nat)
abbrev z_Made_34 (a : MkI) (a1 : KB) : Prop := (mB a.s).s.bs.length = a1.x.s.bs.length
abbrev z_Made_35 (a : MkI) (a1 : KB) : Prop := ∀ (i : Nat), i < (mB a.s).s.bs.length -> gD (mB a.s).s.bs i = gD a1.x.s.bs i
abbrev z_Made_36 (a : MkI) (a1 : KB) : Prop := (mB a.s).s.used = a1.x.s.used
abbrev z_Made_37 (a : MkI) (a1 : KB) : Prop := (mB a.s).s.mix = a1.x.s.mix
abbrev z_Made_38 (a : MkI) : Prop := (mB a.s).b.length = (0 : Nat)
abbrev z_Made_39 (a : MkI) : Prop := (0 : Nat) <= (2 : Nat) /\ StmB ((3 : Int) - (↑(0 : Nat) : Int)) (mB a.s).s /\ mkB (0 : Nat) (mB a.s) = mB a.s /\ (↑(mB a.s).b.length : Int) + (↑(0 : Nat) : Int) <= (2 : Int) /\ (0 : Int) <=
 (mB a.s).a /\ (mB a.s).a <= (60 : Int) * ((2 : Int) - (↑(0 : Nat) : Int))
abbrev z_Made_40 : Prop := false = true -> z_Made_18
abbrev z_Made_41 (a : KB) : Nat := a.x.b.length + (1 : Nat)
abbrev z_Made_42 (a : KB) (a1 : KB) : Prop := a.x.b.length = z_Made_41 a1
abbrev z_Made_43 (j : Nat) (a : MkI) : Prop := j < (mB a.s).b.length
abbrev z_Made_44 (j : Nat) : Nat := (0 : Nat) + j
abbrev z_Made_45 (a : MkI) : Prop := (mB a.s).a = (mB a.s).a
abbrev z_Made_46 (i : Nat) (a : KL) : Prop := i < a.x.s.bs.length
abbrev z_Made_47 (a : MkI) : Prop := (mB a.s).b.length = (mB a.s).b.length
abbrev z_Made_48 (a : MkI) : Prop := ∀ (i : Nat), z_Made_43 i a -> gD (mB a.s).b i = gD (mB a.s).b i
abbrev z_Made_49 (a : MkI) : Nat := (mB a.s).b.length + (1 : Nat)
abbrev z_Made_50 (a : MkI) (a1 : KL) : Nat := z_Made_49 a - a1.k
abbrev z_Made_51 (z : Ln) : Int := z.b0 - z.a0
abbrev z_Made_52 (z : Ln) : Int := z.b1 - z.a1
abbrev z_Made_53 (z : Ln) : Prop := ((0 : Int) <= z.a0 /\ z.a0 <= (39 : Int)) /\ ((1 : Int) <= z_Made_51 z /\ z_Made_51 z <= (60 : Int)) /\ ((0 : Int) <= z.a1 /\ z.a1 <= (59 : Int)) /\ (0 : Int) <= z_Made_52 z /\ z_Made_52 z <= (199 :
 Int)
abbrev z_Made_54 (a : MkI) (a1 : KL) : Prop := z_Made_39 a /\ a1.k <= z_Made_49 a /\ StmB ((3 : Int) + (4 : Int) * (↑a1.k : Int)) a1.x.s /\ mkL (z_Made_50 a a1) a1.x = mL a.s /\ a1.x.l.length = a1.k /\ ∀ (z : Ln), List.Mem z
 a1.x.l -> z_Made_53 z
abbrev z_Made_55 (a : MkI) (a1 : KL) : Prop := z_Made_54 a a1 /\ a1.k = (0 : Nat)
abbrev z_Made_56 (a : KL) (a1 : MkI) : Bool := decide ((↑a.k : Int) <= (↑(mB a1.s).b.length : Int))
abbrev z_Made_57 (a : KL) : List Int := rng a.x.s.bs.length λ (i : Nat) => gD a.x.s.bs i
abbrev z_Made_58 (a : KL) : Nat := (z_Made_57 a).length
abbrev z_Made_59 (a : KL) : Stm := Stm.mk (z_Made_57 a) a.x.s.used a.x.s.mix
abbrev z_Made_60 (a : KL) : Stm := nextS (z_Made_59 a) (40 : Int)
abbrev z_Made_61 (a : KL) : List Int := (z_Made_60 a).bs
abbrev z_Made_62 (a : KL) : Nat := (z_Made_61 a).length
abbrev z_Made_63 (a : KL) (i : Nat) : Int := gD (z_Made_61 a) i
abbrev z_Made_64 (a : KL) : List Int := rng (z_Made_62 a) λ (i : Nat) => z_Made_63 a i
abbrev z_Made_65 (a : KL) : Nat := (z_Made_64 a).length
abbrev z_Made_66 (a : KL) : Int := (z_Made_60 a).used
abbrev z_Made_67 (a : KL) : Int := (z_Made_60 a).mix
abbrev z_Made_68 (a : KL) : Prop := (40 : Int) = Int.ofNat (40 : Nat) /\ z_Made_58 a = a.x.s.bs.length /\ (∀ (i : Nat), i < z_Made_58 a -> gD (z_Made_57 a) i = gD a.x.s.bs i) /\ a.x.s.used = a.x.s.used /\ a.x.s.mix =
 a.x.s.mix /\ (0 : Int) <= a.x.s.used /\ z_Made_12 /\ z_Made_65 a = z_Made_62 a /\ (∀ (i : Nat), i < z_Made_65 a -> gD (z_Made_64 a) i = z_Made_63 a i) /\ z_Made_66 a = z_Made_66 a /\ z_Made_67 a = z_Made_67 a /\ (z_Made_66 a - (0
 : Int)).NonNeg
abbrev z_Made_69 : Prop := (1 : Int) = Int.ofNat (1 : Nat)
abbrev z_Made_70 (a : KL) : Stm := Stm.mk (z_Made_64 a) (z_Made_66 a) (z_Made_67 a)
abbrev z_Made_71 (a : KL) : Stm := nextS (z_Made_70 a) (60 : Int)
abbrev z_Made_72 (a : KL) : List Int := (z_Made_71 a).bs
abbrev z_Made_73 (a : KL) : Nat := (z_Made_72 a).length
abbrev z_Made_74 (a : KL) (i : Nat) : Int := gD (z_Made_72 a) i
abbrev z_Made_75 (a : KL) : List Int := rng (z_Made_73 a) λ (i : Nat) => z_Made_74 a i
abbrev z_Made_76 (a : KL) : Nat := (z_Made_75 a).length
abbrev z_Made_77 (a : KL) : Int := (z_Made_71 a).used
abbrev z_Made_78 (a : KL) : Int := (z_Made_71 a).mix
abbrev z_Made_79 (a : KL) : Stm := Stm.mk (z_Made_75 a) (z_Made_77 a) (z_Made_78 a)
abbrev z_Made_80 (a : KL) : Stm := witS (z_Made_79 a) (1 : Int) (60 : Int)
abbrev z_Made_81 (a : KL) : List Int := (z_Made_80 a).bs
abbrev z_Made_82 (a : KL) : Nat := (z_Made_81 a).length
abbrev z_Made_83 (a : KL) (i : Nat) : Int := gD (z_Made_81 a) i
abbrev z_Made_84 (a : KL) : List Int := rng (z_Made_82 a) λ (i : Nat) => z_Made_83 a i
abbrev z_Made_85 (a : KL) : Nat := (z_Made_84 a).length
abbrev z_Made_86 (a : KL) : Int := (z_Made_80 a).used
abbrev z_Made_87 (a : KL) : Int := (z_Made_80 a).mix
abbrev z_Made_88 (a : KL) : Prop := z_Made_69 /\ z_Made_12 /\ z_Made_76 a = z_Made_73 a /\ (∀ (i : Nat), i < z_Made_76 a -> gD (z_Made_75 a) i = z_Made_74 a i) /\ z_Made_77 a = z_Made_77 a /\ z_Made_78 a = z_Made_78 a /\ (0 :
 Int) <= z_Made_77 a /\ (200 : Int) = Int.ofNat (200 : Nat) /\ z_Made_85 a = z_Made_82 a /\ (∀ (i : Nat), i < z_Made_85 a -> gD (z_Made_84 a) i = z_Made_83 a i) /\ z_Made_86 a = z_Made_86 a /\ z_Made_87 a = z_Made_87 a /\
 (z_Made_86 a - (0 : Int)).NonNeg
abbrev z_Made_89 : Prop := (4 : Nat) = (4 : Nat)
abbrev z_Made_90 : Prop := z_Made_17 /\ (z_Made_18 -> z_Made_89)
abbrev z_Made_91 (a : KL) (a1 : KL) : Prop := (↑a.k : Int) = IntKind.i64.wrap ((↑a1.k : Int) + (1 : Int))
abbrev z_Made_92 (a : KL) : Stm := Stm.mk (z_Made_84 a) (z_Made_86 a) (z_Made_87 a)
abbrev z_Made_93 (a : KL) : Stm := nextS (z_Made_92 a) (200 : Int)
abbrev z_Made_94 (a : KL) : List Int := (z_Made_93 a).bs
abbrev z_Made_95 (a : KL) (a1 : KL) : Prop := a.x.s.bs.length = (z_Made_94 a1).length
abbrev z_Made_96 (a : KL) (a1 : KL) : Prop := ∀ (i : Nat), z_Made_46 i a -> gD a.x.s.bs i = gD (z_Made_94 a1) i
abbrev z_Made_97 (a : KL) (a1 : KL) : Prop := a.x.s.used = (z_Made_93 a1).used
abbrev z_Made_98 (a : KL) (a1 : KL) : Prop := a.x.s.mix = (z_Made_93 a1).mix
abbrev z_Made_99 (a : KL) : Prop := a.x.l.length = (1 : Nat)
abbrev z_Made_100 (a : KL) : Int := nextV (z_Made_59 a) (40 : Int)
abbrev z_Made_101 (a : KL) : Int := nextV (z_Made_70 a) (60 : Int)
abbrev z_Made_102 (a : KL) : Int := IntKind.i64.wrap (z_Made_100 a + witV (z_Made_79 a) (1 : Int) (60 : Int))
abbrev z_Made_103 (a : KL) : Int := IntKind.i64.wrap (z_Made_101 a + nextV (z_Made_92 a) (200 : Int))
abbrev z_Made_104 (a : MkI) (a1 : KL) : Prop := (mL a.s).s.bs.length = a1.x.s.bs.length
abbrev z_Made_105 (a : MkI) (a1 : KL) : Prop := ∀ (i : Nat), i < (mL a.s).s.bs.length -> gD (mL a.s).s.bs i = gD a1.x.s.bs i
abbrev z_Made_106 (a : MkI) (a1 : KL) : Prop := (mL a.s).s.used = a1.x.s.used
abbrev z_Made_107 (a : MkI) (a1 : KL) : Prop := (mL a.s).s.mix = a1.x.s.mix
abbrev z_Made_108 (a : MkI) : Prop := (mL a.s).l.length = (0 : Nat)
abbrev z_Made_109 (a : MkI) : Prop := z_Made_39 a /\ z_Made_49 a <= z_Made_49 a /\ StmB ((3 : Int) + (4 : Int) * (↑(z_Made_49 a) : Int)) (mL a.s).s /\ mkL (z_Made_49 a - z_Made_49 a) (mL a.s) = mL a.s /\ (mL a.s).l.length =
 z_Made_49 a /\ ∀ (z : Ln), List.Mem z (mL a.s).l -> z_Made_53 z
abbrev z_Made_110 (a : KL) : Nat := a.x.l.length + (1 : Nat)
abbrev z_Made_111 (a : KL) (a1 : KL) : Prop := a.x.l.length = z_Made_110 a1
abbrev z_Made_112 (i : Nat) (a : KL) : Bool := decide (i < a.x.l.length)
abbrev z_Made_113 (j : Nat) (a : MkI) : Prop := j < (mL a.s).l.length
abbrev z_Made_114 (a : KL) (j : Nat) : Ln := gD a.x.l (z_Made_44 j)
abbrev z_Made_115 (a : MkI) : List Int := rng (mL a.s).s.bs.length λ (i : Nat) => gD (mL a.s).s.bs i
abbrev z_Made_116 (a : MkI) : Nat := (z_Made_115 a).length
abbrev z_Made_117 (a : MkI) : Stm := Stm.mk (z_Made_115 a) (mL a.s).s.used (mL a.s).s.mix
abbrev z_Made_118 (a : MkI) : Stm := witS (z_Made_117 a) (1 : Int) a.m
abbrev z_Made_119 (a : MkI) : List Int := (z_Made_118 a).bs
abbrev z_Made_120 (i : Nat) (a : KG) : Prop := i < a.x.s.bs.length
abbrev z_Made_121 (a : MkI) : Prop := (mL a.s).l.length = (mL a.s).l.length
abbrev z_Made_122 (a : MkI) : Prop := ∀ (i : Nat), z_Made_113 i a -> (gD (mL a.s).l i).a0 = (gD (mL a.s).l i).a0 /\ (gD (mL a.s).l i).a1 = (gD (mL a.s).l i).a1 /\ (gD (mL a.s).l i).b0 = (gD (mL a.s).l i).b0 /\ (gD (mL a.s).l
 i).b1 = (gD (mL a.s).l i).b1
abbrev z_Made_123 (a : MkI) : Prop := z_Made_6 /\ z_Made_7 /\ z_Made_6 /\ z_Made_7 /\ z_Made_47 a /\ z_Made_48 a /\ z_Made_121 a /\ z_Made_122 a
abbrev z_Made_124 (a : MkI) (a1 : KG) : Prop := z_Made_109 a /\ (↑a1.k : Int) <= a.m /\ StmB ((16 : Int) + (3 : Int) * (a.m - (↑a1.k : Int))) a1.x.s /\ mkGa a a1.k a1.x = mG a /\ (↑a1.x.l.length : Int) + (↑a1.k : Int) <= a.m
abbrev z_Made_125 (a : MkI) (a1 : KG) : Prop := z_Made_124 a a1 /\ a1.x.l = []
abbrev z_Made_126 (a : KG) : Bool := decide ((↑a.k : Int) > (0 : Int))
abbrev z_Made_127 (a : MkI) : Int := IntKind.i64.wrap ((mB a.s).a + (80 : Int))
abbrev z_Made_128 (a : KG) : List Int := rng a.x.s.bs.length λ (i : Nat) => gD a.x.s.bs i
abbrev z_Made_129 (a : KG) : Nat := (z_Made_128 a).length
abbrev z_Made_130 (a : MkI) (a1 : KG) : Prop := z_Made_127 a = z_Made_127 a /\ z_Made_129 a1 = a1.x.s.bs.length /\ (∀ (i : Nat), i < z_Made_129 a1 -> gD (z_Made_128 a1) i = gD a1.x.s.bs i) /\ a1.x.s.used = a1.x.s.used /\
 a1.x.s.mix = a1.x.s.mix /\ (a1.x.s.used - (0 : Int)).NonNeg
abbrev z_Made_131 (a : KP) (a1 : KG) : Prop := (↑a.k : Int) = (↑a1.k : Int)
abbrev z_Made_132 (a : KP) : Prop := (↑a.p : Int) = (0 : Int)
abbrev z_Made_133 (a : KG) : Stm := Stm.mk (z_Made_128 a) a.x.s.used a.x.s.mix
abbrev z_Made_134 (a : KG) (a1 : MkI) : Stm := nextS (z_Made_133 a) (z_Made_127 a1)
abbrev z_Made_135 (a : KG) (a1 : MkI) : List Int := (z_Made_134 a a1).bs
abbrev z_Made_136 (a : KP) (a1 : KG) (a2 : MkI) : Prop := a.x.s.bs.length = (z_Made_135 a1 a2).length
abbrev z_Made_137 (i : Nat) (a : KP) : Prop := i < a.x.s.bs.length
abbrev z_Made_138 (a : KP) (a1 : KG) (a2 : MkI) : Prop := ∀ (i : Nat), z_Made_137 i a -> gD a.x.s.bs i = gD (z_Made_135 a1 a2) i
abbrev z_Made_139 (a : KP) (a1 : KG) (a2 : MkI) : Prop := a.x.s.used = (z_Made_134 a1 a2).used
abbrev z_Made_140 (a : KP) (a1 : KG) (a2 : MkI) : Prop := a.x.s.mix = (z_Made_134 a1 a2).mix
abbrev z_Made_141 (a : KP) (a1 : KG) (a2 : MkI) : Prop := a.t = nextV (z_Made_133 a1) (z_Made_127 a2)
abbrev z_Made_142 : Prop := Int.ofNat (0 : Nat) = Int.ofNat (0 : Nat)
abbrev z_Made_143 : Prop := z_Made_142 /\ z_Made_142
abbrev z_Made_144 (a : MkI) (a1 : KP) : Nat := (mB a.s).b.length - a1.p
abbrev z_Made_145 (a : MkI) (a1 : KP) (a2 : KG) : Prop := z_Made_109 a /\ a1.k = a2.k /\ (1 : Nat) <= a1.k /\ (↑a1.k : Int) <= a.m /\ StmB ((17 : Int) + (3 : Int) * (a.m - (↑a1.k : Int))) a1.x.s /\ mkGa a (a1.k - (1 : Nat))
 (stpG (lnP a a1.t) a1.x.s a1.t a1.x.l) = mG a /\ (↑a1.x.l.length : Int) + (↑a1.k : Int) <= a.m /\ ((0 : Int) <= a1.t /\ a1.t <= (199 : Int)) /\ a1.p <= (mB a.s).b.length /\ ptM (mB a.s).b a1.t = ptK (mB a.s).b a1.t (z_Made_144 a
 a1) a1.p
abbrev z_Made_146 (a : MkI) (a1 : KP) (a2 : KG) : Prop := z_Made_145 a a1 a2 /\ a1.x.l = []
abbrev z_Made_147 (a : KP) (a1 : MkI) : Prop := (↑a.p : Int) < (↑(mB a1.s).b.length : Int)
abbrev z_Made_148 (a : KP) (a1 : MkI) : Bool := decide (z_Made_147 a a1)
abbrev z_Made_149 (a : KP) : Prop := (0 : Int) <= (↑a.p : Int)
abbrev z_Made_150 (a : KP) (a1 : MkI) : Prop := z_Made_148 a a1 = true -> z_Made_149 a /\ z_Made_147 a a1
abbrev z_Made_151 (a : KP) (a1 : MkI) : Bool := bif z_Made_148 a a1 then decide (gD (mB a1.s).b a.p <= a.t) else false
abbrev z_Made_152 (a : KP) (a1 : KP) : Prop := (↑a.k : Int) = (↑a1.k : Int)
abbrev z_Made_153 (a : KP) (a1 : KP) : Prop := (↑a.p : Int) = IntKind.i64.wrap ((↑a1.p : Int) + (1 : Int))
abbrev z_Made_154 (a : KP) (a1 : KP) : Prop := a.x.s.bs.length = a1.x.s.bs.length
abbrev z_Made_155 (a : KP) (a1 : KP) : Prop := ∀ (i : Nat), z_Made_137 i a -> gD a.x.s.bs i = gD a1.x.s.bs i
abbrev z_Made_156 (a : KP) (a1 : KP) : Prop := a.x.s.used = a1.x.s.used
abbrev z_Made_157 (a : KP) (a1 : KP) : Prop := a.x.s.mix = a1.x.s.mix
abbrev z_Made_158 (a : MkI) (a1 : KP) (a2 : KP) : Prop := z_Made_144 a a1 < z_Made_144 a a2
abbrev z_Made_159 (a : KP) (a1 : MkI) : Prop := z_Made_149 a /\ (↑a.p : Int) < (↑(mL a1.s).l.length : Int)
abbrev z_Made_160 (a : MkI) (a1 : KP) : Int := (gD (mL a.s).l a1.p).a1
abbrev z_Made_161 (a : MkI) (a1 : KP) : Int := (gD (mL a.s).l a1.p).a0
abbrev z_Made_162 (a : MkI) (a1 : KP) : Int := IntKind.i64.wrap ((gD (mL a.s).l a1.p).b0 - z_Made_161 a a1)
abbrev z_Made_163 (a : MkI) (a1 : KP) : Int := IntKind.i64.wrap (IntKind.i64.wrap (z_Made_160 a a1 * z_Made_162 a a1) + IntKind.i64.wrap (IntKind.i64.wrap ((gD (mL a.s).l a1.p).b1 - z_Made_160 a a1) * IntKind.i64.wrap
 (a1.t - z_Made_161 a a1)))
abbrev z_Made_164 (a : MkI) (a1 : KP) : Bool := bif decide (z_Made_163 a a1 < (0 : Int)) then true else decide (z_Made_163 a a1 > IntKind.i64.wrap ((1000 : Int) * z_Made_162 a a1))
abbrev z_Made_165 (a : KG) (a1 : KP) : Prop := (↑a.k : Int) = (↑a1.k : Int)
abbrev z_Made_166 (a : KG) (a1 : KP) : Prop := a.x.s.bs.length = a1.x.s.bs.length
abbrev z_Made_167 (a : KG) (a1 : KP) : Prop := ∀ (i : Nat), z_Made_120 i a -> gD a.x.s.bs i = gD a1.x.s.bs i
abbrev z_Made_168 (a : KG) (a1 : KP) : Prop := a.x.s.used = a1.x.s.used
abbrev z_Made_169 (a : KG) (a1 : KP) : Prop := a.x.s.mix = a1.x.s.mix
abbrev z_Made_170 (a : KG) : Nat := a.k - (1 : Nat)
abbrev z_Made_171 (a : KG) (a1 : KG) (a2 : MkI) : Prop := a.k = a1.k /\ (1 : Nat) <= a.k /\ z_Made_109 a2 /\ (↑(z_Made_170 a) : Int) <= a2.m /\ StmB ((16 : Int) + (3 : Int) * (a2.m - (↑(z_Made_170 a) : Int))) a.x.s /\ mkGa a2
 (z_Made_170 a) a.x = mG a2 /\ (↑a.x.l.length : Int) + (↑(z_Made_170 a) : Int) <= a2.m
abbrev z_Made_172 (a : KG) (a1 : KG) (a2 : MkI) : Prop := z_Made_171 a a1 a2 /\ a.x.l = []
abbrev z_Made_173 (a : MkI) (a1 : KP) : Prop := z_Made_162 a a1 = (0 : Int) -> False
abbrev z_Made_174 : Prop := (6 : Int) = Int.ofNat (6 : Nat)
abbrev z_Made_175 (a : KP) : List Int := rng a.x.s.bs.length λ (i : Nat) => gD a.x.s.bs i
abbrev z_Made_176 (a : KP) : Nat := (z_Made_175 a).length
abbrev z_Made_177 (a : KP) : Stm := Stm.mk (z_Made_175 a) a.x.s.used a.x.s.mix
abbrev z_Made_178 (a : KP) : Stm := nextS (z_Made_177 a) (6 : Int)
abbrev z_Made_179 (a : KP) : List Int := (z_Made_178 a).bs
abbrev z_Made_180 (a : KP) : Nat := (z_Made_179 a).length
abbrev z_Made_181 (a : KP) (i : Nat) : Int := gD (z_Made_179 a) i
abbrev z_Made_182 (a : KP) : List Int := rng (z_Made_180 a) λ (i : Nat) => z_Made_181 a i
abbrev z_Made_183 (a : KP) : Nat := (z_Made_182 a).length
abbrev z_Made_184 (a : KP) : Int := (z_Made_178 a).used
abbrev z_Made_185 (a : KP) : Int := (z_Made_178 a).mix
abbrev z_Made_186 (a : KP) : Prop := z_Made_174 /\ z_Made_176 a = a.x.s.bs.length /\ (∀ (i : Nat), i < z_Made_176 a -> gD (z_Made_175 a) i = gD a.x.s.bs i) /\ a.x.s.used = a.x.s.used /\ a.x.s.mix = a.x.s.mix /\ (0 : Int) <=
 a.x.s.used /\ z_Made_69 /\ z_Made_174 /\ z_Made_183 a = z_Made_180 a /\ (∀ (i : Nat), i < z_Made_183 a -> gD (z_Made_182 a) i = z_Made_181 a i) /\ z_Made_184 a = z_Made_184 a /\ z_Made_185 a = z_Made_185 a /\ (z_Made_184 a - (0
 : Int)).NonNeg
abbrev z_Made_187 : Prop := True /\ (z_Made_16 -> (0 : Nat) = (3 : Nat))
abbrev z_Made_188 : Prop := (3 : Nat) = (3 : Nat)
abbrev z_Made_189 : Prop := z_Made_18 -> z_Made_188
abbrev z_Made_190 : Prop := z_Made_17 /\ z_Made_189
abbrev z_Made_191 : Prop := z_Made_22 /\ (24 : Nat) <= (140737488355328 : Nat)
abbrev z_Made_192 (a : KG) : Prop := a.x.l.length = (1 : Nat)
abbrev z_Made_193 (a : KP) : Stm := Stm.mk (z_Made_182 a) (z_Made_184 a) (z_Made_185 a)
abbrev z_Made_194 (a : KP) : Stm := witS (z_Made_193 a) (1 : Int) (6 : Int)
abbrev z_Made_195 (a : KP) : List Int := (z_Made_194 a).bs
abbrev z_Made_196 (a : KG) (a1 : KP) : Prop := a.x.s.bs.length = (z_Made_195 a1).length
abbrev z_Made_197 (a : KG) (a1 : KP) : Prop := ∀ (i : Nat), z_Made_120 i a -> gD a.x.s.bs i = gD (z_Made_195 a1) i
abbrev z_Made_198 (a : KG) (a1 : KP) : Prop := a.x.s.used = (z_Made_194 a1).used
abbrev z_Made_199 (a : KG) (a1 : KP) : Prop := a.x.s.mix = (z_Made_194 a1).mix
abbrev z_Made_200 (a : MkI) (a1 : KP) : Int := IntKind.i64.wrap ((z_Made_163 a a1).tdiv (z_Made_162 a a1))
abbrev z_Made_201 (a : MkI) (a1 : KP) : Int := maxI (0 : Int) (IntKind.i64.wrap (z_Made_200 a a1 - nextV (z_Made_177 a1) (6 : Int)))
abbrev z_Made_202 (a : MkI) (a1 : KP) : Int := IntKind.i64.wrap (z_Made_200 a a1 + witV (z_Made_193 a1) (1 : Int) (6 : Int))
abbrev z_Made_203 (a : KG) : Prop := (0 : Nat) < a.x.l.length
abbrev z_Made_204 (a : KG) (a1 : KG) (a2 : MkI) : Prop := z_Made_171 a a1 a2 /\ z_Made_203 a
abbrev z_Made_205 (a : KG) (a1 : KG) : Prop := (↑a.k : Int) = IntKind.i64.wrap ((↑a1.k : Int) - (1 : Int))
abbrev z_Made_206 (a : KG) (a1 : KG) : Prop := a.x.s.bs.length = a1.x.s.bs.length
abbrev z_Made_207 (a : KG) (a1 : KG) : Prop := ∀ (i : Nat), z_Made_120 i a -> gD a.x.s.bs i = gD a1.x.s.bs i
abbrev z_Made_208 (a : KG) (a1 : KG) : Prop := a.x.s.used = a1.x.s.used
abbrev z_Made_209 (a : KG) (a1 : KG) : Prop := a.x.s.mix = a1.x.s.mix
abbrev z_Made_210 (a : KG) (a1 : KG) : Prop := a.x.l.length = a1.x.l.length
abbrev z_Made_211 (a : MkI) (a1 : KG) : Prop := z_Made_124 a a1 /\ z_Made_203 a1
abbrev z_Made_212 (a : KG) (a1 : MkI) : Prop := ∀ (a_1 : KG), z_Made_204 a_1 a a1 -> ∃ (a_3 : KG), (z_Made_45 a1 /\ z_Made_6 /\ z_Made_210 a_3 a_1 /\ z_Made_205 a_3 a_1 /\ z_Made_206 a_3 a_1 /\ z_Made_207 a_3 a_1 /\ z_Made_208
 a_3 a_1 /\ z_Made_209 a_3 a_1 /\ z_Made_6 /\ z_Made_7 /\ z_Made_6 /\ z_Made_7 /\ z_Made_47 a1 /\ z_Made_48 a1 /\ z_Made_121 a1 /\ z_Made_122 a1 /\ z_Made_210 a_3 a_1 /\ ∀ (i : Nat), i < a_3.x.l.length -> (gD a_3.x.l i).st = (gD
 a_1.x.l i).st /\ (gD a_3.x.l i).lo = (gD a_1.x.l i).lo /\ (gD a_3.x.l i).hi = (gD a_1.x.l i).hi) /\ z_Made_211 a1 a_3 /\ a_3.k < a.k
abbrev z_Made_213 (a : KG) (a1 : MkI) : Prop := (∀ (a_1 : KG), z_Made_172 a_1 a a1 -> ∃ (a_3 : KG), (z_Made_45 a1 /\ z_Made_6 /\ z_Made_7 /\ z_Made_205 a_3 a_1 /\ z_Made_206 a_3 a_1 /\ z_Made_207 a_3 a_1 /\ z_Made_208 a_3 a_1 /\
 z_Made_209 a_3 a_1 /\ z_Made_123 a1) /\ z_Made_125 a1 a_3 /\ a_3.k < a.k) /\ z_Made_212 a a1 /\ z_Made_212 a a1
abbrev z_Made_214 : Prop := True /\ z_Made_189
abbrev z_Made_215 (a : MkI) : Prop := (mdR a).b.length = (0 : Nat)
abbrev z_Made_216 (a : MkI) (a1 : KG) : Prop := (mG a).s.bs.length = a1.x.s.bs.length /\ (∀ (i : Nat), i < (mG a).s.bs.length -> gD (mG a).s.bs i = gD a1.x.s.bs i) /\ (mG a).s.used = a1.x.s.used /\ (mG a).s.mix = a1.x.s.mix
abbrev z_Made_217 (a : MkI) (a1 : KG) : Prop := z_Made_215 a /\ z_Made_215 a /\ (mdR a).l.length = (1 : Nat) /\ (∀ (i : Nat), i < (mdR a).l.length -> (gD (mdR a).l i).a0 = (0 : Int) /\ (gD (mdR a).l i).a1 = (0 : Int) /\ (gD
 (mdR a).l i).b0 = (1 : Int) /\ (gD (mdR a).l i).b1 = (1 : Int)) /\ z_Made_216 a a1
abbrev z_Made_218 (a : KP) (a1 : KG) : Prop := a.x.l.length = a1.x.l.length
abbrev z_Made_219 (a : KP) : Prop := (0 : Nat) < a.x.l.length
abbrev z_Made_220 (a : MkI) (a1 : KP) (a2 : KG) : Prop := z_Made_145 a a1 a2 /\ z_Made_219 a1
abbrev z_Made_221 (a : KP) (a1 : KP) : Prop := a.x.l.length = a1.x.l.length
abbrev z_Made_222 (a : KG) (a1 : KP) : Prop := a.x.l.length = a1.x.l.length
abbrev z_Made_223 (a : KP) : Nat := a.x.l.length + (1 : Nat)
abbrev z_Made_224 (a : KG) (a1 : KP) : Prop := a.x.l.length = z_Made_223 a1
abbrev z_Made_225 (i : Nat) (a : KP) : Bool := decide (i < a.x.l.length)
abbrev z_Made_226 (a : KG) : Nat := a.x.l.length + (1 : Nat)
abbrev z_Made_227 (i : Nat) (a : KG) : Bool := decide (i < a.x.l.length)
abbrev z_Made_228 (a : KG) (j : Nat) : Gau := gD a.x.l (z_Made_44 j)
theorem vc_Made (a : MkI) : (V_Made a) = ((((3 : Int) = Int.ofNat (3 : Nat) /\ z_Made_1 a = a.s.bs.length /\ (∀ (i : Nat), i < z_Made_1 a -> gD (z_Made_0 a) i = gD a.s.bs i) /\ a.s.used = a.s.used /\ a.s.mix = a.s.mix /\
 (a.s.used - (0 : Int)).NonNeg) /\ (∃ (a_1 : KB), (a.m = a.m /\ a_1.x.a = (0 : Int) /\ (↑a_1.k : Int) = nextV (z_Made_2 a) (3 : Int) /\ a_1.x.s.bs.length = (z_Made_4 a).length /\ (∀ (i : Nat), z_Made_5 i a_1 -> gD a_1.x.s.bs i
 = gD (z_Made_4 a) i) /\ a_1.x.s.used = (z_Made_3 a).used /\ a_1.x.s.mix = (z_Made_3 a).mix /\ z_Made_6 /\ z_Made_7 /\ z_Made_6 /\ z_Made_7 /\ z_Made_6 /\ z_Made_7 /\ z_Made_8) /\ z_Made_10 a_1 a) /\ (∀ (a_1 : KB), z_Made_10 a_1 a ->
 bif z_Made_11 a_1 then z_Made_15 a_1 /\ ((True /\ (z_Made_16 -> (0 : Nat) = (1 : Nat))) /\ z_Made_20 /\ z_Made_21 /\ z_Made_22 /\ (8 : Nat) <= (140737488355328 : Nat)) /\ ∃ (a_3 : KB), (a.m = a.m /\ z_Made_25 a_3 a_1 /\ z_Made_26
 a_3 a_1 /\ z_Made_29 a_3 a_1 /\ z_Made_30 a_3 a_1 /\ z_Made_31 a_3 a_1 /\ z_Made_32 a_3 a_1 /\ z_Made_6 /\ z_Made_7 /\ z_Made_6 /\ z_Made_7 /\ z_Made_6 /\ z_Made_33 a_3 /\ z_Made_6 /\ z_Made_7 /\ z_Made_33 a_3 /\ ∀ (i : Nat), i <
 a_3.x.b.length -> gD a_3.x.b i = z_Made_24 a_1) /\ z_Made_9 a_3 a /\ a_3.k < a_1.k + (1 : Nat) else ∃ (a_3 : One), (a.m = a.m /\ (mB a.s).a = a_1.x.a /\ z_Made_34 a a_1 /\ z_Made_35 a a_1 /\ z_Made_36 a a_1 /\ z_Made_37 a a_1 /\
 z_Made_6 /\ z_Made_7 /\ z_Made_6 /\ z_Made_7 /\ z_Made_38 a /\ z_Made_38 a /\ z_Made_8) /\ z_Made_39 a) /\ ∀ (a_1 : KB), z_Made_9 a_1 a -> bif z_Made_11 a_1 then z_Made_15 a_1 /\ ((a_1.x.b.length = a_1.x.b.length /\ ((0 : Nat) <
 a_1.x.b.length -> z_Made_19)) /\ z_Made_20 /\ z_Made_40 /\ z_Made_41 a_1 <= (9223372036854775807 : Nat) /\ z_Made_41 a_1 * (8 : Nat) <= (140737488355328 : Nat)) /\ ∃ (a_3 : KB), (a.m = a.m /\ z_Made_25 a_3 a_1 /\ z_Made_26 a_3 a_1
 /\ z_Made_29 a_3 a_1 /\ z_Made_30 a_3 a_1 /\ z_Made_31 a_3 a_1 /\ z_Made_32 a_3 a_1 /\ z_Made_6 /\ z_Made_7 /\ z_Made_6 /\ z_Made_7 /\ z_Made_6 /\ z_Made_42 a_3 a_1 /\ z_Made_6 /\ z_Made_7 /\ z_Made_42 a_3 a_1 /\ ∀ (i : Nat), i <
 a_3.x.b.length -> gD a_3.x.b i = bif decide (i < a_1.x.b.length) then gD a_1.x.b i else z_Made_24 a_1) /\ z_Made_9 a_3 a /\ a_3.k < a_1.k else ∃ (a_3 : One), (a.m = a.m /\ (mB a.s).a = a_1.x.a /\ z_Made_34 a a_1 /\ z_Made_35 a
 a_1 /\ z_Made_36 a a_1 /\ z_Made_37 a a_1 /\ z_Made_6 /\ z_Made_7 /\ z_Made_6 /\ z_Made_7 /\ (mB a.s).b.length = a_1.x.b.length /\ (0 : Nat) + a_1.x.b.length <= a_1.x.b.length /\ (∀ (j : Nat), z_Made_43 j a -> gD (mB a.s).b j = gD
 a_1.x.b (z_Made_44 j)) /\ z_Made_8) /\ z_Made_39 a) /\ ∀ (a_1 : One), z_Made_39 a -> ((∃ (a_3 : KL), (a.m = a.m /\ z_Made_45 a /\ (↑a_3.k : Int) = (0 : Int) /\ a_3.x.s.bs.length = (mB a.s).s.bs.length /\ (∀ (i : Nat), z_Made_46
 i a_3 -> gD a_3.x.s.bs i = gD (mB a.s).s.bs i) /\ a_3.x.s.used = (mB a.s).s.used /\ a_3.x.s.mix = (mB a.s).s.mix /\ z_Made_6 /\ z_Made_7 /\ z_Made_6 /\ z_Made_7 /\ z_Made_47 a /\ z_Made_48 a /\ z_Made_8) /\ z_Made_55 a a_3) /\ (∀
 (a_3 : KL), z_Made_55 a a_3 -> bif z_Made_56 a_3 a then z_Made_68 a_3 /\ z_Made_88 a_3 /\ ((True /\ (z_Made_16 -> (0 : Nat) = (4 : Nat))) /\ z_Made_90 /\ z_Made_21 /\ z_Made_22 /\ (32 : Nat) <= (140737488355328 : Nat)) /\ ∃ (a_5 :
 KL), (a.m = a.m /\ z_Made_45 a /\ z_Made_91 a_5 a_3 /\ z_Made_95 a_5 a_3 /\ z_Made_96 a_5 a_3 /\ z_Made_97 a_5 a_3 /\ z_Made_98 a_5 a_3 /\ z_Made_6 /\ z_Made_7 /\ z_Made_6 /\ z_Made_7 /\ z_Made_47 a /\ z_Made_48 a /\ z_Made_6 /\
 z_Made_99 a_5 /\ z_Made_99 a_5 /\ ∀ (i : Nat), i < a_5.x.l.length -> (gD a_5.x.l i).a0 = z_Made_100 a_3 /\ (gD a_5.x.l i).a1 = z_Made_101 a_3 /\ (gD a_5.x.l i).b0 = z_Made_102 a_3 /\ (gD a_5.x.l i).b1 = z_Made_103 a_3) /\
 z_Made_54 a a_5 /\ z_Made_50 a a_5 < (mB a.s).b.length + (3 : Nat) else ∃ (a_5 : One), (a.m = a.m /\ z_Made_45 a /\ z_Made_104 a a_3 /\ z_Made_105 a a_3 /\ z_Made_106 a a_3 /\ z_Made_107 a a_3 /\ z_Made_6 /\ z_Made_7 /\ z_Made_6
 /\ z_Made_7 /\ z_Made_47 a /\ z_Made_48 a /\ z_Made_108 a /\ z_Made_108 a) /\ z_Made_109 a) /\ ∀ (a_3 : KL), z_Made_54 a a_3 -> bif z_Made_56 a_3 a then z_Made_68 a_3 /\ z_Made_88 a_3 /\ ((a_3.x.l.length = a_3.x.l.length /\ ((0 :
 Nat) < a_3.x.l.length -> z_Made_89)) /\ z_Made_90 /\ z_Made_40 /\ z_Made_110 a_3 <= (9223372036854775807 : Nat) /\ z_Made_110 a_3 * (32 : Nat) <= (140737488355328 : Nat)) /\ ∃ (a_5 : KL), (a.m = a.m /\ z_Made_45 a /\ z_Made_91 a_5
 a_3 /\ z_Made_95 a_5 a_3 /\ z_Made_96 a_5 a_3 /\ z_Made_97 a_5 a_3 /\ z_Made_98 a_5 a_3 /\ z_Made_6 /\ z_Made_7 /\ z_Made_6 /\ z_Made_7 /\ z_Made_47 a /\ z_Made_48 a /\ z_Made_6 /\ z_Made_111 a_5 a_3 /\ z_Made_111 a_5 a_3 /\ ∀ (i :
 Nat), i < a_5.x.l.length -> ((gD a_5.x.l i).a0 = bif z_Made_112 i a_3 then (gD a_3.x.l i).a0 else z_Made_100 a_3) /\ ((gD a_5.x.l i).a1 = bif z_Made_112 i a_3 then (gD a_3.x.l i).a1 else z_Made_101 a_3) /\ ((gD a_5.x.l
 i).b0 = bif z_Made_112 i a_3 then (gD a_3.x.l i).b0 else z_Made_102 a_3) /\ (gD a_5.x.l i).b1 = bif z_Made_112 i a_3 then (gD a_3.x.l i).b1 else z_Made_103 a_3) /\ z_Made_54 a a_5 /\ z_Made_50 a a_5 < z_Made_50 a a_3 else ∃
 (a_5 : One), (a.m = a.m /\ z_Made_45 a /\ z_Made_104 a a_3 /\ z_Made_105 a a_3 /\ z_Made_106 a a_3 /\ z_Made_107 a a_3 /\ z_Made_6 /\ z_Made_7 /\ z_Made_6 /\ z_Made_7 /\ z_Made_47 a /\ z_Made_48 a /\ (mL a.s).l.length =
 a_3.x.l.length /\ (0 : Nat) + a_3.x.l.length <= a_3.x.l.length /\ ∀ (j : Nat), z_Made_113 j a -> (gD (mL a.s).l j).a0 = (z_Made_114 a_3 j).a0 /\ (gD (mL a.s).l j).a1 = (z_Made_114 a_3 j).a1 /\ (gD (mL a.s).l j).b0 =
 (z_Made_114 a_3 j).b0 /\ (gD (mL a.s).l j).b1 = (z_Made_114 a_3 j).b1) /\ z_Made_109 a) /\ ∀ (a_3 : One), z_Made_109 a -> (z_Made_69 /\ a.m = a.m /\ z_Made_116 a = (mL a.s).s.bs.length /\ (∀ (i : Nat), i < z_Made_116 a -> gD
 (z_Made_115 a) i = gD (mL a.s).s.bs i) /\ (mL a.s).s.used = (mL a.s).s.used /\ (mL a.s).s.mix = (mL a.s).s.mix /\ ((mL a.s).s.used - (0 : Int)).NonNeg) /\ (∃ (a_5 : KG), (z_Made_45 a /\ z_Made_6 /\ z_Made_7 /\ (↑a_5.k : Int) =
 witV (z_Made_117 a) (1 : Int) a.m /\ a_5.x.s.bs.length = (z_Made_119 a).length /\ (∀ (i : Nat), z_Made_120 i a_5 -> gD a_5.x.s.bs i = gD (z_Made_119 a) i) /\ a_5.x.s.used = (z_Made_118 a).used /\ a_5.x.s.mix = (z_Made_118
 a).mix /\ z_Made_123 a) /\ z_Made_125 a a_5) /\ (∀ (a_5 : KG), z_Made_125 a a_5 -> bif z_Made_126 a_5 then (z_Made_130 a a_5 /\ (∃ (a_7 : KP), (z_Made_45 a /\ z_Made_6 /\ z_Made_7 /\ z_Made_131 a_7 a_5 /\ z_Made_132 a_7 /\
 z_Made_136 a_7 a_5 a /\ z_Made_138 a_7 a_5 a /\ z_Made_139 a_7 a_5 a /\ z_Made_140 a_7 a_5 a /\ z_Made_6 /\ z_Made_7 /\ z_Made_6 /\ z_Made_7 /\ z_Made_47 a /\ z_Made_48 a /\ z_Made_121 a /\ z_Made_122 a /\ z_Made_141 a_7 a_5 a /\
 z_Made_143) /\ z_Made_146 a a_7 a_5) /\ ∀ (a_7 : KP), z_Made_146 a a_7 a_5 -> z_Made_150 a_7 a /\ bif z_Made_151 a_7 a then ∃ (a_9 : KP), (z_Made_45 a /\ z_Made_6 /\ z_Made_7 /\ z_Made_152 a_9 a_7 /\ z_Made_153 a_9 a_7 /\
 z_Made_154 a_9 a_7 /\ z_Made_155 a_9 a_7 /\ z_Made_156 a_9 a_7 /\ z_Made_157 a_9 a_7 /\ z_Made_6 /\ z_Made_7 /\ z_Made_6 /\ z_Made_7 /\ z_Made_47 a /\ z_Made_48 a /\ z_Made_121 a /\ z_Made_122 a /\ a_9.t = a_7.t /\ z_Made_143) /\
 z_Made_146 a a_9 a_5 /\ z_Made_158 a a_9 a_7 else z_Made_159 a_7 a /\ bif z_Made_164 a a_7 then ∃ (a_9 : KG), (z_Made_45 a /\ z_Made_6 /\ z_Made_7 /\ z_Made_165 a_9 a_7 /\ z_Made_166 a_9 a_7 /\ z_Made_167 a_9 a_7 /\ z_Made_168
 a_9 a_7 /\ z_Made_169 a_9 a_7 /\ z_Made_123 a) /\ z_Made_172 a_9 a_5 a else z_Made_173 a a_7 /\ z_Made_186 a_7 /\ (z_Made_187 /\ z_Made_190 /\ z_Made_21 /\ z_Made_191) /\ ∃ (a_9 : KG), (z_Made_45 a /\ z_Made_6 /\ z_Made_192 a_9 /\
 z_Made_165 a_9 a_7 /\ z_Made_196 a_9 a_7 /\ z_Made_197 a_9 a_7 /\ z_Made_198 a_9 a_7 /\ z_Made_199 a_9 a_7 /\ z_Made_6 /\ z_Made_7 /\ z_Made_6 /\ z_Made_7 /\ z_Made_47 a /\ z_Made_48 a /\ z_Made_121 a /\ z_Made_122 a /\ z_Made_192
 a_9 /\ ∀ (i : Nat), i < a_9.x.l.length -> (gD a_9.x.l i).st = a_7.t /\ (gD a_9.x.l i).lo = z_Made_201 a a_7 /\ (gD a_9.x.l i).hi = z_Made_202 a a_7) /\ z_Made_204 a_9 a_5 a) /\ z_Made_213 a_5 a else (z_Made_187 /\ z_Made_214 /\
 z_Made_40 /\ z_Made_191) /\ (mdG a).length = (1 : Nat) /\ (∀ (i : Nat), i < (mdG a).length -> (gD (mdG a) i).st = (1 : Int) /\ (gD (mdG a) i).lo = (1 : Int) /\ (gD (mdG a) i).hi = (1 : Int)) /\ z_Made_217 a a_5) /\ ∀ (a_5 : KG),
 z_Made_211 a a_5 -> bif z_Made_126 a_5 then (z_Made_130 a a_5 /\ (∃ (a_7 : KP), (z_Made_45 a /\ z_Made_6 /\ z_Made_218 a_7 a_5 /\ z_Made_131 a_7 a_5 /\ z_Made_132 a_7 /\ z_Made_136 a_7 a_5 a /\ z_Made_138 a_7 a_5 a /\ z_Made_139
 a_7 a_5 a /\ z_Made_140 a_7 a_5 a /\ z_Made_6 /\ z_Made_7 /\ z_Made_6 /\ z_Made_7 /\ z_Made_47 a /\ z_Made_48 a /\ z_Made_121 a /\ z_Made_122 a /\ z_Made_141 a_7 a_5 a /\ z_Made_142 /\ z_Made_142 /\ z_Made_218 a_7 a_5 /\ ∀ (i : Nat),
 i < a_7.x.l.length -> (gD a_7.x.l i).st = (gD a_5.x.l i).st /\ (gD a_7.x.l i).lo = (gD a_5.x.l i).lo /\ (gD a_7.x.l i).hi = (gD a_5.x.l i).hi) /\ z_Made_220 a a_7 a_5) /\ ∀ (a_7 : KP), z_Made_220 a a_7 a_5 -> z_Made_150 a_7 a
 /\ bif z_Made_151 a_7 a then ∃ (a_9 : KP), (z_Made_45 a /\ z_Made_6 /\ z_Made_221 a_9 a_7 /\ z_Made_152 a_9 a_7 /\ z_Made_153 a_9 a_7 /\ z_Made_154 a_9 a_7 /\ z_Made_155 a_9 a_7 /\ z_Made_156 a_9 a_7 /\ z_Made_157 a_9 a_7 /\
 z_Made_6 /\ z_Made_7 /\ z_Made_6 /\ z_Made_7 /\ z_Made_47 a /\ z_Made_48 a /\ z_Made_121 a /\ z_Made_122 a /\ a_9.t = a_7.t /\ z_Made_142 /\ z_Made_142 /\ z_Made_221 a_9 a_7 /\ ∀ (i : Nat), i < a_9.x.l.length -> (gD a_9.x.l i).st =
 (gD a_7.x.l i).st /\ (gD a_9.x.l i).lo = (gD a_7.x.l i).lo /\ (gD a_9.x.l i).hi = (gD a_7.x.l i).hi) /\ z_Made_220 a a_9 a_5 /\ z_Made_158 a a_9 a_7 else z_Made_159 a_7 a /\ bif z_Made_164 a a_7 then ∃ (a_9 : KG), (z_Made_45
 a /\ z_Made_6 /\ z_Made_222 a_9 a_7 /\ z_Made_165 a_9 a_7 /\ z_Made_166 a_9 a_7 /\ z_Made_167 a_9 a_7 /\ z_Made_168 a_9 a_7 /\ z_Made_169 a_9 a_7 /\ z_Made_6 /\ z_Made_7 /\ z_Made_6 /\ z_Made_7 /\ z_Made_47 a /\ z_Made_48 a /\
 z_Made_121 a /\ z_Made_122 a /\ z_Made_222 a_9 a_7 /\ ∀ (i : Nat), i < a_9.x.l.length -> (gD a_9.x.l i).st = (gD a_7.x.l i).st /\ (gD a_9.x.l i).lo = (gD a_7.x.l i).lo /\ (gD a_9.x.l i).hi = (gD a_7.x.l i).hi) /\ z_Made_204 a_9
 a_5 a else z_Made_173 a a_7 /\ z_Made_186 a_7 /\ ((a_7.x.l.length = a_7.x.l.length /\ (z_Made_219 a_7 -> z_Made_188)) /\ z_Made_190 /\ z_Made_40 /\ z_Made_223 a_7 <= (9223372036854775807 : Nat) /\ z_Made_223 a_7 * (24 : Nat) <=
 (140737488355328 : Nat)) /\ ∃ (a_9 : KG), (z_Made_45 a /\ z_Made_6 /\ z_Made_224 a_9 a_7 /\ z_Made_165 a_9 a_7 /\ z_Made_196 a_9 a_7 /\ z_Made_197 a_9 a_7 /\ z_Made_198 a_9 a_7 /\ z_Made_199 a_9 a_7 /\ z_Made_6 /\ z_Made_7 /\
 z_Made_6 /\ z_Made_7 /\ z_Made_47 a /\ z_Made_48 a /\ z_Made_121 a /\ z_Made_122 a /\ z_Made_224 a_9 a_7 /\ ∀ (i : Nat), i < a_9.x.l.length -> ((gD a_9.x.l i).st = bif z_Made_225 i a_7 then (gD a_7.x.l i).st else a_7.t) /\ ((gD
 a_9.x.l i).lo = bif z_Made_225 i a_7 then (gD a_7.x.l i).lo else z_Made_201 a a_7) /\ (gD a_9.x.l i).hi = bif z_Made_225 i a_7 then (gD a_7.x.l i).hi else z_Made_202 a a_7) /\ z_Made_204 a_9 a_5 a) /\ z_Made_213 a_5 a else
 bif (↑a_5.x.l.length : Int) == (0 : Int) then ((a_5.x.l.length = a_5.x.l.length /\ (z_Made_203 a_5 -> z_Made_188)) /\ z_Made_214 /\ z_Made_40 /\ z_Made_226 a_5 <= (9223372036854775807 : Nat) /\ z_Made_226 a_5 * (24 : Nat) <=
 (140737488355328 : Nat)) /\ (mdG a).length = z_Made_226 a_5 /\ (∀ (i : Nat), i < (mdG a).length -> ((gD (mdG a) i).st = bif z_Made_227 i a_5 then (gD a_5.x.l i).st else (1 : Int)) /\ ((gD (mdG a) i).lo = bif z_Made_227 i a_5
 then (gD a_5.x.l i).lo else (1 : Int)) /\ (gD (mdG a) i).hi = bif z_Made_227 i a_5 then (gD a_5.x.l i).hi else (1 : Int)) /\ z_Made_217 a a_5 else (mdG a).length = a_5.x.l.length /\ (0 : Nat) + a_5.x.l.length <=
 a_5.x.l.length /\ (∀ (j : Nat), j < (mdG a).length -> (gD (mdG a) j).st = (z_Made_228 a_5 j).st /\ (gD (mdG a) j).lo = (z_Made_228 a_5 j).lo /\ (gD (mdG a) j).hi = (z_Made_228 a_5 j).hi) /\ (mdR a).b.length = (mB
 a.s).b.length /\ (∀ (i : Nat), i < (mdR a).b.length -> gD (mdR a).b i = gD (mB a.s).b i) /\ (mdR a).l.length = (mL a.s).l.length /\ (∀ (i : Nat), i < (mdR a).l.length -> (gD (mdR a).l i).a0 = (gD (mL a.s).l i).a0 /\ (gD (mdR
 a).l i).a1 = (gD (mL a.s).l i).a1 /\ (gD (mdR a).l i).b0 = (gD (mL a.s).l i).b0 /\ (gD (mdR a).l i).b1 = (gD (mL a.s).l i).b1) /\ z_Made_216 a a_5) := by kernel_rfl
theorem stm_eta (s : Stm) : Stm.mk s.bs s.used s.mix = s := rfl
theorem wit_next {K : Int} {s : Stm} (h : StmB K s) (hK : K <= 1000000000000000) (lo hi : Int) : StmB (K + 1) (witS s lo hi) := h.next hK _
theorem B_step {a : MkI} {y : KB} (h : inv4 a y) (hk : 0 < y.k) : inv4 a ⟨y.k - 1, stpB y.x⟩ := by
 obtain ⟨h1, h2, h3, h4, h5, h6⟩ := h
 have hw := witV_in h2 (by omega) (lo := 5) (hi := 60) (by omega) (by omega) (by omega)
 have ha : wr (y.x.a + witV y.x.s 5 60) = y.x.a + witV y.x.s 5 60 := w64 (by omega) (by omega)
 refine ⟨by show y.k - 1 <= 2; omega, ?_, ?_, ?_, ?_, ?_⟩
 ·have := wit_next h2 (by omega) 5 60
  exact this.mono (by show _ <= 3 - ((y.k - 1 : Nat) : Int); omega)
 ·obtain ⟨k, hk2⟩ : ∃ k, y.k = k + 1 := ⟨y.k - 1, by omega⟩
  rw [hk2] at h3 ⊢; exact h3
 ·show (((y.x.b ++ [_]).length : Nat) : Int) + ((y.k - 1 : Nat) : Int) <= 2
  rw [List.length_append, List.length_singleton]; omega
 ·show 0 <= wr _; rw [ha]; omega
 ·show wr _ <= 60 * (2 - ((y.k - 1 : Nat) : Int)); rw [ha]; omega
theorem B_end {a : MkI} {y : KB} (h : inv4 a y) (hk : ¬0 < y.k) : y.x = mB a.s /\ inv4 a ⟨0, mB a.s⟩ := by
 obtain ⟨k, x⟩ := y
 have hk : k = 0 := by have : ¬0 < k := hk; omega
 subst hk
 have e : x = mB a.s := h.2.2.1
 exact ⟨e, e ▸ h⟩
theorem mkLn_ok {K : Int} {s : Stm} (h : StmB K s) (hK : K <= 100000) : okMk (mkLn s) /\ StmB (K + 4) (lnS4 s) := by
 have h1 := h.next (by omega) 40
 have h2 := h1.next (by omega) 60
 have h3 := wit_next h2 (by omega) 1 60
 have h4 := h3.next (by omega) 200
 have v1 := nextV_in h (by omega) 40
 have v2 := nextV_in h1 (by omega) 60
 have v3 := witV_in h2 (by omega) (lo := 1) (hi := 60) (by omega) (by omega) (by omega)
 have v4 := nextV_in h3 (by omega) 200
 have a1 := v1.2 (by omega)
 have a2 := v2.2 (by omega)
 have a4 := v4.2 (by omega)
 have e1 : wr (nextV s 40 + witV (lnS2 s) 1 60) = nextV s 40 + witV (lnS2 s) 1 60 := by unfold lnS2 lnS1; exact w64 (by omega) (by omega)
 have e2 : wr (nextV (lnS1 s) 60 + nextV (lnS3 s) 200) = nextV (lnS1 s) 60 + nextV (lnS3 s) 200 := by unfold lnS3 lnS2 lnS1; exact w64 (by omega) (by omega)
 refine ⟨?_, h4.mono (by omega)⟩
 unfold okMk mkLn
 simp only [e1, e2]
 unfold lnS3 lnS2 lnS1
 omega
theorem L_step {a : MkI} {y : KL} (h : inv9 a y) (hk : y.k <= (mB a.s).b.length) : inv9 a ⟨y.k + 1, stpL y.x⟩ := by
 obtain ⟨h0, h1, h2, h3, h4, h5⟩ := h
 have hb : ((mB a.s).b.length : Int) <= 2 := by have : (((mB a.s).b.length : Nat) : Int) + ((0 : Nat) : Int) <= 2 := h0.2.2.2.1; omega
 obtain ⟨o1, o2⟩ := mkLn_ok h2 (by omega)
 refine ⟨h0, by show y.k + 1 <= _; omega, o2.mono (by show _ <= 3 + 4 * ((y.k + 1 : Nat) : Int); omega), ?_, ?_, ?_⟩
 ·obtain ⟨n, hn⟩ : ∃ n, (mB a.s).b.length + 1 - y.k = n + 1 := ⟨(mB a.s).b.length - y.k, by omega⟩
  rw [hn] at h3
  show mkL ((mB a.s).b.length + 1 - (y.k + 1)) (stpL y.x) = _
  rw [show (mB a.s).b.length + 1 - (y.k + 1) = n by omega]; exact h3
 ·show (y.x.l ++ [_]).length = y.k + 1; rw [List.length_append, h4]; rfl
 ·intro z hz
  rcases List.mem_append.1 hz with hz | hz
  ·exact h5 z hz
  ·rw [List.mem_singleton.1 hz]; exact o1
theorem L_end {a : MkI} {y : KL} (h : inv9 a y) (hk : ¬y.k <= (mB a.s).b.length) : y.x = mL a.s /\ fin9 a := by
 obtain ⟨k, x⟩ := y
 have hk1 : k <= (mB a.s).b.length + 1 := h.2.1
 have hk : k = (mB a.s).b.length + 1 := by have : ¬k <= (mB a.s).b.length := hk; omega
 subst hk
 have e : x = mL a.s := by
  have := h.2.2.2.1
  rw [show (mB a.s).b.length + 1 - ((mB a.s).b.length + 1) = 0 by omega] at this; exact this
 exact ⟨e, show inv9 a ⟨_, mL a.s⟩ from e ▸ h⟩
theorem ptK_le {b : List Int} {t : Int} : ∀ (n k : Nat), k <= ptK b t n k /\ ptK b t n k <= k + n
 | 0, k => ⟨Nat.le_refl _, Nat.le_refl _⟩
 | n + 1, k => by
  unfold ptK
  cases decide (gD b k <= t)
  ·exact ⟨Nat.le_refl _, by show k <= _; omega⟩
  ·have := ptK_le (b := b) (t := t) n (k + 1); show k <= ptK b t n (k + 1) /\ ptK b t n (k + 1) <= _; omega
theorem pt_go {b : List Int} {t : Int} {p : Nat} (h : (bif decide (p < b.length) then decide (gD b p <= t) else false) = true) : p < b.length /\ ptK b t (b.length - p) p = ptK b t (b.length - (p + 1)) (p + 1) := by
 cases hd : decide (p < b.length) with
 | false => rw [hd] at h; cases h
 | true =>
  rw [hd] at h
  have hp := of_decide_eq_true hd
  refine ⟨hp, ?_⟩
  obtain ⟨n, hn⟩ : ∃ n, b.length - p = n + 1 := ⟨b.length - p - 1, by omega⟩
  rw [hn, show b.length - (p + 1) = n by omega]
  conv => lhs; unfold ptK
  rw [show decide (gD b p <= t) = true from h]; rfl
theorem pt_stop {b : List Int} {t : Int} {p : Nat} (h : (bif decide (p < b.length) then decide (gD b p <= t) else false) = false) (hp : p <= b.length) : ptK b t (b.length - p) p = p := by
 cases hd : decide (p < b.length) with
 | false => rw [show b.length - p = 0 by have := of_decide_eq_false hd; omega]; rfl
 | true =>
  rw [hd] at h
  have hp := of_decide_eq_true hd
  obtain ⟨n, hn⟩ : ∃ n, b.length - p = n + 1 := ⟨b.length - p - 1, by omega⟩
  rw [hn]; unfold ptK; rw [show decide (gD b p <= t) = false from h]; rfl
theorem G_fin {a : MkI} (h : fin9 a) : ((mB a.s).b.length : Int) <= 2 /\ (0 <= (mB a.s).a /\ (mB a.s).a <= 120) /\ (mL a.s).l.length = (mB a.s).b.length + 1 /\ (∀ z ∈ (mL a.s).l, okMk z) /\ StmB 15 (mL a.s).s := by
 obtain ⟨h0, h1, h2, h3, h4, h5⟩ := h
 have hb : (((mB a.s).b.length : Nat) : Int) + ((0 : Nat) : Int) <= 2 := h0.2.2.2.1
 have h6 : 0 <= (mB a.s).a := h0.2.2.2.2.1
 have h7 : (mB a.s).a <= 60 * (2 - ((0 : Nat) : Int)) := h0.2.2.2.2.2
 exact ⟨by omega, ⟨h6, by omega⟩, h4, h5, h2.mono (by show 3 + 4 * (((mB a.s).b.length + 1 : Nat) : Int) <= 15; omega)⟩
theorem hiG_eq {a : MkI} (h : fin9 a) : hiG a = (mB a.s).a + 80 := by
 obtain ⟨_, h2, _⟩ := G_fin h
 exact w64 (by omega) (by omega)
theorem G_in {a : MkI} {k : Nat} {x : MG} (h : inv16 a k x) (hm : a.m <= 100) (hk : 0 < k) : inv20 a k ⟨k, ⟨nextS x.s (hiG a), x.l⟩, nextV x.s (hiG a), 0⟩ := by
 obtain ⟨h0, h1, h2, h3, h4⟩ := h
 have hv := nextV_in h2 (by omega) (hiG a)
 obtain ⟨_, h6, _⟩ := G_fin h0
 rw [hiG_eq h0] at hv
 have := hv.2 (by omega)
 refine ⟨h0, rfl, hk, h1, (h2.next (by omega) _).mono (by show _ <= 17 + 3 * (a.m - (k : Int)); omega), ?_, h4, ?_, Nat.zero_le _, rfl⟩
 ·obtain ⟨n, hn⟩ : ∃ n, k = n + 1 := ⟨k - 1, by omega⟩
  subst hn; exact h3
 ·rw [hiG_eq h0]; exact ⟨hv.1, by show nextV x.s ((mB a.s).a + 80) <= 199; omega⟩
theorem G_bounds {x : Ln} {t : Int} (h : okMk x) (ht : 0 <= t /\ t <= 199) : wdG x = x.b0 - x.a0 /\ upG x t = x.a1 * (x.b0 - x.a0) + (x.b1 - x.a1) * (t - x.a0) /\ wr (1000 * wdG x) = 1000 * wdG x /\ -100000 <= upG x t /\ upG x t <= 100000 := by
 obtain ⟨h1, h2, h3, h4⟩ := h
 have m1 : 0 <= x.a1 * (x.b0 - x.a0) := Int.mul_nonneg (by omega) (by omega)
 have m2 : x.a1 * (x.b0 - x.a0) <= 59 * 60 := Int.mul_le_mul (by omega) (by omega) (by omega) (by omega)
 have m3 : (x.b1 - x.a1) * (t - x.a0) <= 199 * 199 := Int.le_trans (Int.mul_le_mul_of_nonneg_left (show t - x.a0 <= 199 by omega) (by omega)) (Int.mul_le_mul_of_nonneg_right (by omega) (by omega))
 have m4 : -(199 * 39) <= (x.b1 - x.a1) * (t - x.a0) := by
  have e1 := Int.mul_le_mul_of_nonneg_left (show -39 <= t - x.a0 by omega) (show 0 <= x.b1 - x.a1 by omega)
  have e2 := Int.mul_le_mul_of_nonneg_right (show x.b1 - x.a1 <= 199 by omega) (show (0 : Int) <= 39 by omega)
  rw [Int.mul_neg] at e1
  omega
 have w1 : wr (x.b0 - x.a0) = x.b0 - x.a0 := w64 (by omega) (by omega)
 have w2 : wr (x.a1 * (x.b0 - x.a0)) = x.a1 * (x.b0 - x.a0) := w64 (by omega) (by omega)
 have w3 : wr (x.b1 - x.a1) = x.b1 - x.a1 := w64 (by omega) (by omega)
 have w4 : wr (t - x.a0) = t - x.a0 := w64 (by omega) (by omega)
 have w5 : wr ((x.b1 - x.a1) * (t - x.a0)) = (x.b1 - x.a1) * (t - x.a0) := w64 (by omega) (by omega)
 have w6 : wr (x.a1 * (x.b0 - x.a0) + (x.b1 - x.a1) * (t - x.a0)) = x.a1 * (x.b0 - x.a0) + (x.b1 - x.a1) * (t - x.a0) := w64 (by omega) (by omega)
 have e1 : wdG x = x.b0 - x.a0 := w1
 have e2 : upG x t = x.a1 * (x.b0 - x.a0) + (x.b1 - x.a1) * (t - x.a0) := by unfold upG; rw [w1, w2, w3, w4, w5, w6]
 refine ⟨e1, e2, ?_, by omega, by omega⟩
 rw [e1]; exact w64 (by omega) (by omega)
theorem G_out {a : MkI} {m : Nat} {y : KP} (h : inv20 a m y) (hm : a.m <= 100) : inv17m a m ⟨y.k, stpG (lnP a y.t) y.x.s y.t y.x.l⟩ := by
 obtain ⟨h0, h1, h2, h3, h4, h5, h6, h7, h8, h9⟩ := h
 have hs := h4.next (by omega) 6
 have hs2 := wit_next hs (by omega) 1 6
 refine ⟨h1, h2, h0, by show ((y.k - 1 : Nat) : Int) <= _; omega, ?_, h5, ?_⟩
 ·show StmB (16 + 3 * (a.m - ((y.k - 1 : Nat) : Int))) (stpG _ _ _ _).s
  unfold stpG
  cases (bif decide (upG (lnP a y.t) y.t < 0) then true else decide (upG (lnP a y.t) y.t > wr (1000 * wdG (lnP a y.t))))
  ·exact hs2.mono (by omega)
  ·exact h4.mono (by omega)
 ·show (((stpG _ _ _ _).l.length : Nat) : Int) + ((y.k - 1 : Nat) : Int) <= a.m
  unfold stpG
  cases (bif decide (upG (lnP a y.t) y.t < 0) then true else decide (upG (lnP a y.t) y.t > wr (1000 * wdG (lnP a y.t))))
  ·show (((y.x.l ++ [_]).length : Nat) : Int) + _ <= _
   rw [List.length_append, List.length_singleton]; omega
  ·show ((y.x.l.length : Nat) : Int) + _ <= _; omega
theorem G_up {a : MkI} {m : Nat} {y : KP} (h : inv20 a m y) (hp : (bif decide (y.p < (mB a.s).b.length) then decide (gD (mB a.s).b y.p <= y.t) else false) = true) : inv20 a m ⟨y.k, y.x, y.t, y.p + 1⟩ := by
 obtain ⟨h0, h1, h2, h3, h4, h5, h6, h7, h8, h9⟩ := h
 obtain ⟨p1, p2⟩ := pt_go hp
 exact ⟨h0, h1, h2, h3, h4, h5, h6, h7, p1, h9.trans p2⟩
theorem G_at {a : MkI} {m : Nat} {y : KP} (h : inv20 a m y) (hp : (bif decide (y.p < (mB a.s).b.length) then decide (gD (mB a.s).b y.p <= y.t) else false) = false) : lnP a y.t = gD (mL a.s).l y.p /\ y.p < (mL a.s).l.length := by
 obtain ⟨h0, h1, h2, h3, h4, h5, h6, h7, h8, h9⟩ := h
 obtain ⟨_, _, g3, _⟩ := G_fin h0
 exact ⟨by unfold lnP; rw [h9.trans (pt_stop hp h8)], by omega⟩
theorem G_line {a : MkI} {m : Nat} {y : KP} (h : inv20 a m y) : okMk (lnP a y.t) := by
 obtain ⟨h0, h1, h2, h3, h4, h5, h6, h7, h8, h9⟩ := h
 obtain ⟨_, _, g3, g4, _⟩ := G_fin h0
 have := ptK_le (b := (mB a.s).b) (t := y.t) (mB a.s).b.length 0
 unfold lnP
 exact g4 _ (gD_mem (by rw [g3]; unfold ptM; omega))
theorem p_Made (a : MkI) (h : preM a) : V_Made a := by
 rw [vc_Made]; delta z_Made_0 z_Made_1 z_Made_2 z_Made_3 z_Made_4 z_Made_5 z_Made_6 z_Made_7 z_Made_8 z_Made_9 z_Made_10 z_Made_11 z_Made_12 z_Made_13 z_Made_14 z_Made_15 z_Made_16 z_Made_17 z_Made_18 z_Made_19 z_Made_20 z_Made_21 z_Made_22 z_Made_23 z_Made_24 z_Made_25 z_Made_26 z_Made_27 z_Made_28 z_Made_29 z_Made_30 z_Made_31 z_Made_32 z_Made_33 z_Made_34 z_Made_35 z_Made_36 z_Made_37 z_Made_38 z_Made_39 z_Made_40 z_Made_41 z_Made_42 z_Made_43 z_Made_44 z_Made_45 z_Made_46 z_Made_47 z_Made_48 z_Made_49 z_Made_50 z_Made_51 z_Made_52 z_Made_53 z_Made_54 z_Made_55 z_Made_56 z_Made_57 z_Made_58 z_Made_59 z_Made_60 z_Made_61 z_Made_62 z_Made_63 z_Made_64 z_Made_65 z_Made_66 z_Made_67 z_Made_68 z_Made_69 z_Made_70 z_Made_71 z_Made_72 z_Made_73 z_Made_74 z_Made_75 z_Made_76 z_Made_77 z_Made_78 z_Made_79 z_Made_80 z_Made_81 z_Made_82 z_Made_83 z_Made_84 z_Made_85 z_Made_86 z_Made_87 z_Made_88 z_Made_89 z_Made_90 z_Made_91 z_Made_92 z_Made_93 z_Made_94 z_Made_95 z_Made_96 z_Made_97 z_Made_98 z_Made_99 z_Made_100 z_Made_101 z_Made_102 z_Made_103 z_Made_104 z_Made_105 z_Made_106 z_Made_107 z_Made_108 z_Made_109 z_Made_110 z_Made_111 z_Made_112 z_Made_113 z_Made_114 z_Made_115 z_Made_116 z_Made_117 z_Made_118 z_Made_119 z_Made_120 z_Made_121 z_Made_122 z_Made_123 z_Made_124 z_Made_125 z_Made_126 z_Made_127 z_Made_128 z_Made_129 z_Made_130 z_Made_131 z_Made_132 z_Made_133 z_Made_134 z_Made_135 z_Made_136 z_Made_137 z_Made_138 z_Made_139 z_Made_140 z_Made_141 z_Made_142 z_Made_143 z_Made_144 z_Made_145 z_Made_146 z_Made_147 z_Made_148 z_Made_149 z_Made_150 z_Made_151 z_Made_152 z_Made_153 z_Made_154 z_Made_155 z_Made_156 z_Made_157 z_Made_158 z_Made_159 z_Made_160 z_Made_161 z_Made_162 z_Made_163 z_Made_164 z_Made_165 z_Made_166 z_Made_167 z_Made_168 z_Made_169 z_Made_170 z_Made_171 z_Made_172 z_Made_173 z_Made_174 z_Made_175 z_Made_176 z_Made_177 z_Made_178 z_Made_179 z_Made_180 z_Made_181 z_Made_182 z_Made_183 z_Made_184 z_Made_185 z_Made_186 z_Made_187 z_Made_188 z_Made_189 z_Made_190 z_Made_191 z_Made_192 z_Made_193 z_Made_194 z_Made_195 z_Made_196 z_Made_197 z_Made_198 z_Made_199 z_Made_200 z_Made_201 z_Made_202 z_Made_203 z_Made_204 z_Made_205 z_Made_206 z_Made_207 z_Made_208 z_Made_209 z_Made_210 z_Made_211 z_Made_212 z_Made_213 z_Made_214 z_Made_215 z_Made_216 z_Made_217 z_Made_218 z_Made_219 z_Made_220 z_Made_221 z_Made_222 z_Made_223 z_Made_224 z_Made_225 z_Made_226 z_Made_227 z_Made_228; simp only [condP, eq_self, implies_true, and_self, true_and, and_true, true_implies, forall_const, decide_eq_true_eq, decide_eq_false_iff_not, Int.toNat_natCast, dSpan_eSpan, dInt_eInt, dGau_e, dPt_e, dLn_e, dRt_e, Nat.zero_add, Int.zero_sub, Nat.le_eq, Nat.succ_eq_add_one, Nat.add_one_le_iff, Bool.not_eq_true', Bool.not_eq_false', rng_length, dSpan_mk, rng_getD, stm_eta, Int.ofNat_lt]
 obtain ⟨hs, hm1, hm2⟩ := h
 have hn := nextV_in hs (by omega) 3
 have hn2 := hn.2 (by omega)
 have hk0 : ((nextV a.s 3).toNat : Int) = nextV a.s 3 := Int.toNat_of_nonneg hn.1
 have i0 : inv4 a ⟨(nextV a.s 3).toNat, ⟨nextS a.s 3, 0, []⟩⟩ := ⟨by show (nextV a.s 3).toNat <= 2; omega, (hs.next (by omega) 3).mono (by show _ <= 3 - (((nextV a.s 3).toNat : Nat) : Int); omega), rfl, by show ((0 : Nat) : Int) + ((nextV a.s 3).toNat : Nat) <= 2; omega, Int.le_refl _, by show 0 <= 60 * (2 - (((nextV a.s 3).toNat : Nat) : Int)); omega⟩
 have w1 : ∀ {y : KB}, inv4 a y -> 0 < y.k -> ((y.k - 1 : Nat) : Int) = IntKind.i64.wrap ((y.k : Int) - 1) := λ {y} hy hk => by
  have := hy.1
  rw [w64 (by omega) (by omega)]; omega
 refine ⟨⟨⟨rfl, hs.used.1⟩, ⟨⟨_, ⟨nextS a.s 3, 0, []⟩⟩, ⟨rfl, hk0, rfl, λ _ _ => rfl, rfl, rfl⟩, i0, rfl⟩, λ y ⟨hy, hyb⟩ => ⟨λ hk => ?_, λ hk => ?_⟩, λ y hy => ⟨λ hk => ?_, λ hk => ?_⟩⟩, λ hB => ⟨⟨⟨⟨0, ⟨(mB a.s).s, []⟩⟩, ⟨rfl, rfl, λ _ _ => rfl, rfl, rfl⟩, ?_, rfl⟩, λ y ⟨hy, hy0⟩ => ⟨λ hk => ?_, λ hk => ?_⟩, λ y hy => ⟨λ hk => ?_, λ hk => ?_⟩⟩, λ hL => ?_⟩⟩
 ·have hk : 0 < y.k := by omega
  have hy2 : inv4 a y := hy
  have ey : stpB y.x = ⟨witS y.x.s 5 60, wr (y.x.a + witV y.x.s 5 60), [wr (y.x.a + witV y.x.s 5 60)]⟩ := by unfold stpB; rw [hyb]; rfl
  refine ⟨⟨rfl, rfl, hy2.2.1.used.1⟩, ⟨by omega, by omega, by omega, by omega, by omega⟩, ⟨y.k - 1, stpB y.x⟩, ?_, B_step hy2 hk, by show y.k - 1 < y.k + 1; omega⟩
  rw [ey]
  exact ⟨rfl, w1 hy2 hk, rfl, λ _ _ => rfl, rfl, rfl, rfl, rfl, λ i hi => by rw [show i = 0 by have h1 : i < 1 := hi; omega]; rfl⟩
 ·obtain ⟨e1, e2⟩ := B_end (show inv4 a y from hy) (by omega)
  exact ⟨default, by rw [<- e1, hyb]; exact ⟨rfl, rfl, λ _ _ => rfl, rfl, rfl, rfl⟩, e2⟩
 ·have hk : 0 < y.k := by omega
  have hy2 : inv4 a y := hy
  have := hy2.2.2.2.1
  refine ⟨⟨rfl, rfl, hy2.2.1.used.1⟩, ⟨by omega, λ h => (by cases h), by omega, by omega⟩, ⟨y.k - 1, stpB y.x⟩, ⟨rfl, w1 hy2 hk, rfl, λ _ _ => rfl, rfl, rfl, ?_, ?_, snocI _ _⟩, B_step hy2 hk, by show y.k - 1 < y.k; omega⟩ <;> (show (y.x.b ++ [_]).length = _; simp)
 ·obtain ⟨e1, e2⟩ := B_end (show inv4 a y from hy) (by omega)
  exact ⟨default, by rw [<- e1]; exact ⟨rfl, rfl, λ _ _ => rfl, rfl, rfl, rfl, Nat.le_refl _, λ _ _ => rfl⟩, e2⟩
 ·exact ⟨hB, Nat.zero_le _, (show StmB (3 - ((0 : Nat) : Int)) (mB a.s).s from hB.2.1).mono (by show _ <= 3 + 4 * ((0 : Nat) : Int); omega), rfl, rfl, λ z hz => by cases hz⟩
 ·have hy2 : inv9 a y := hy
  have hk : y.k <= (mB a.s).b.length := by omega
  have s0 := hy2.2.2.1
  have s1 := s0.next (by omega) 40
  have s2 := s1.next (by omega) 60
  have s3 := wit_next s2 (by omega) 1 60
  have hl : y.x.l = [] := List.eq_nil_of_length_eq_zero (by rw [hy2.2.2.2.2.1]; exact hy0)
  have ey : stpL y.x = ⟨lnS4 y.x.s, [mkLn y.x.s]⟩ := by unfold stpL; rw [hl]; rfl
  refine ⟨⟨rfl, s0.used.1, rfl, s1.used.1⟩, ⟨rfl, rfl, s2.used.1, rfl, s3.used.1⟩, ⟨by omega, by omega, by omega, by omega, by omega⟩, ⟨y.k + 1, stpL y.x⟩, ?_, L_step hy2 hk, by show (mB a.s).b.length + 1 - (y.k + 1) < _; omega⟩
  rw [ey]
  exact ⟨(wsucc (by omega)).symm, rfl, λ _ _ => rfl, rfl, rfl, rfl, rfl, oneL _⟩
 ·have hy0 : y.k = 0 := hy0
  omega
 ·have hy2 : inv9 a y := hy
  have hk : y.k <= (mB a.s).b.length := by omega
  have hb : (((mB a.s).b.length : Nat) : Int) + ((0 : Nat) : Int) <= 2 := hB.2.2.2.1
  have s0 := hy2.2.2.1
  have s1 := s0.next (by omega) 40
  have s2 := s1.next (by omega) 60
  have s3 := wit_next s2 (by omega) 1 60
  have hl := hy2.2.2.2.2.1
  refine ⟨⟨rfl, s0.used.1, rfl, s1.used.1⟩, ⟨rfl, rfl, s2.used.1, rfl, s3.used.1⟩, ⟨by omega, λ h => (by cases h), by omega, by omega⟩, ⟨y.k + 1, stpL y.x⟩, ⟨(wsucc (by omega)).symm, rfl, λ _ _ => rfl, rfl, rfl, ?_, ?_, snocL _ _⟩, L_step hy2 hk, by show (mB a.s).b.length + 1 - (y.k + 1) < _; omega⟩ <;> (show (y.x.l ++ [_]).length = _; simp)
 ·obtain ⟨e1, e2⟩ := L_end (show inv9 a y from hy) (by omega)
  exact ⟨default, by rw [<- e1]; exact ⟨rfl, λ _ _ => rfl, rfl, rfl, rfl, Nat.le_refl _, λ _ _ => ⟨rfl, rfl, rfl, rfl⟩⟩, e2⟩
 ·have hF : fin9 a := hL
  obtain ⟨g1, g2, g3, g4, g5⟩ := G_fin hF
  have hw := witV_in g5 (by omega) (lo := 1) (hi := a.m) (by omega) hm1 (by omega)
  have hwk : ((witV (mL a.s).s 1 a.m).toNat : Int) = witV (mL a.s).s 1 a.m := Int.toNat_of_nonneg (by omega)
  have i16 : inv16 a (witV (mL a.s).s 1 a.m).toNat (mG0 a) := ⟨hF, by omega, (wit_next g5 (by omega) 1 a.m).mono (by omega), rfl, by show ((0 : Nat) : Int) + _ <= _; omega⟩
  have hwr : IntKind.i64.wrap ((mB a.s).a + 80) = hiG a := rfl
  simp only [hwr]
  have nx : ∀ {m : Nat} {z : KG}, inv17m a m z -> inv16 a (z.k - 1) z.x /\ z.k - 1 < m /\ ((z.k - 1 : Nat) : Int) = IntKind.i64.wrap ((z.k : Int) - 1) := λ {m} {z} h => by
   obtain ⟨h1, h2, h3⟩ := h
   have h4 : ((z.k - 1 : Nat) : Int) <= a.m := h3.2.1
   exact ⟨h3, by omega, by rw [w64 (by omega) (by omega)]; omega⟩
  have em : ∀ {y : MG}, y = mG a -> y.l = [] -> mdG a = [⟨1, 1, 1⟩] /\ mdR a = ⟨[], [⟨0, 0, 1, 1⟩]⟩ := λ {y} h h2 => by
   unfold mdG mdR; rw [<- h, h2]; exact ⟨rfl, rfl⟩
  have fl : ∀ {y : MG}, y = mG a -> 0 < y.l.length -> mdG a = y.l /\ mdR a = ⟨(mB a.s).b, (mL a.s).l⟩ := λ {y} h h2 => by
   unfold mdG mdR; rw [<- h, decide_eq_false (by omega)]; exact ⟨rfl, rfl⟩
  refine ⟨⟨rfl, g5.used.1⟩, ⟨⟨_, mG0 a⟩, ⟨hwk, rfl, λ _ _ => rfl, rfl, rfl⟩, i16, rfl⟩, λ y ⟨hy, hyl⟩ => ⟨λ hk => ⟨⟨(show inv16 a y.k y.x from hy).2.2.1.used.1, ⟨⟨y.k, ⟨nextS y.x.s (hiG a), y.x.l⟩, nextV y.x.s (hiG a), 0⟩, ⟨rfl, rfl, rfl, λ _ _ => rfl, rfl, rfl, rfl⟩, G_in hy hm2 (by omega), hyl⟩, λ z ⟨hz, hzl⟩ => ⟨λ _ => ⟨by omega, by omega⟩, λ hp => ?_, λ hp => ?_⟩⟩, λ z ⟨hz, hzl⟩ => ?_, λ z ⟨hz, hzl⟩ => ?_⟩, λ hk => ?_⟩, λ y ⟨hy, hyl⟩ => ⟨λ hk => ?_, λ hk => ?_⟩⟩
  ·exact ⟨⟨z.k, z.x, z.t, z.p + 1⟩, ⟨rfl, (wsucc (by omega)).symm, rfl, λ _ _ => rfl, rfl, rfl, rfl⟩, ⟨G_up hz hp, hzl⟩, by have := (pt_go hp).1; show (mB a.s).b.length - (z.p + 1) < _; omega⟩
  ·obtain ⟨e, e2⟩ := G_at hz hp
   have ho := G_out hz hm2
   have okl := G_line hz
   have hI : inv20 a _ z := hz
   have zs := hI.2.2.2.2.1
   have zs1 := zs.next (by omega) 6
   have zl : (z.x.l.length : Int) + z.k <= a.m := hI.2.2.2.2.2.2.1
   have bw := (G_bounds okl hI.2.2.2.2.2.2.2.1).1
   rw [<- e]
   refine ⟨⟨by omega, by omega⟩, λ hu => ?_, λ hu => ?_⟩
   ·have hu : (bif decide (upG (lnP a z.t) z.t < 0) then true else decide (upG (lnP a z.t) z.t > wr (1000 * wdG (lnP a z.t)))) = true := hu
    have es : stpG (lnP a z.t) z.x.s z.t z.x.l = z.x := by unfold stpG; rw [hu]; rfl
    rw [es] at ho
    exact ⟨⟨z.k, z.x⟩, ⟨rfl, rfl, λ _ _ => rfl, rfl, rfl⟩, ho, hzl⟩
   ·have hu : (bif decide (upG (lnP a z.t) z.t < 0) then true else decide (upG (lnP a z.t) z.t > wr (1000 * wdG (lnP a z.t)))) = false := hu
    have es : stpG (lnP a z.t) z.x.s z.t z.x.l = ⟨witS (nextS z.x.s 6) 1 6, [gauG (lnP a z.t) z.x.s z.t]⟩ := by unfold stpG; rw [hu, show z.x.l = [] from hzl]; rfl
    rw [es] at ho
    refine ⟨λ h0 => ?_, ⟨rfl, zs.used.1, rfl, rfl, zs1.used.1⟩, ⟨by omega, by omega, by omega, by omega, by omega⟩, ⟨z.k, ⟨witS (nextS z.x.s 6) 1 6, [gauG (lnP a z.t) z.x.s z.t]⟩⟩, ⟨rfl, rfl, rfl, λ _ _ => rfl, rfl, rfl, rfl, λ i hi => by rw [show i = 0 by have h1 : i < 1 := hi; omega]; exact ⟨rfl, rfl, rfl⟩⟩, ho, Nat.one_pos⟩
    have h0 : wdG (lnP a z.t) = 0 := h0
    have := okl.2.1; omega
  ·obtain ⟨n1, n2, n3⟩ := nx (show inv17m a _ z from hz)
   exact ⟨⟨z.k - 1, z.x⟩, ⟨n3, rfl, λ _ _ => rfl, rfl, rfl⟩, ⟨n1, hzl⟩, n2⟩
  ·obtain ⟨n1, n2, n3⟩ := nx (show inv17m a _ z from hz)
   exact ⟨⟨z.k - 1, z.x⟩, ⟨rfl, n3, rfl, λ _ _ => rfl, rfl, rfl, rfl, λ _ _ => ⟨rfl, rfl, rfl⟩⟩, ⟨n1, hzl⟩, n2⟩
  ·have hI : inv16 a y.k y.x := hy
   have e0 : y.x = mG a := by
    have := hI.2.2.2.1
    rw [show y.k = 0 by omega] at this; exact this
   obtain ⟨m1, m2⟩ := em e0 hyl
   rw [m1, m2, <- e0]
   refine ⟨⟨by omega, λ h => (by cases h), by omega, by omega⟩, rfl, λ i hi => ?_, rfl, rfl, rfl, λ i hi => ?_, rfl, λ _ _ => rfl, rfl, rfl⟩
   ·rw [show i = 0 by have h1 : i < 1 := hi; omega]; exact ⟨rfl, rfl, rfl⟩
   ·rw [show i = 0 by have h1 : i < 1 := hi; omega]; exact ⟨rfl, rfl, rfl, rfl⟩
  ·have hI : inv16 a y.k y.x := hy
   refine ⟨⟨hI.2.2.1.used.1, ⟨⟨y.k, ⟨nextS y.x.s (hiG a), y.x.l⟩, nextV y.x.s (hiG a), 0⟩, ⟨rfl, rfl, rfl, rfl, λ _ _ => rfl, rfl, rfl, rfl, rfl, λ _ _ => ⟨rfl, rfl, rfl⟩⟩, G_in hy hm2 (by omega), hyl⟩, λ z ⟨hz, hzl⟩ => ⟨λ _ => ⟨by omega, by omega⟩, λ hp => ?_, λ hp => ?_⟩⟩, λ z ⟨hz, hzl⟩ => ?_, λ z ⟨hz, hzl⟩ => ?_⟩
   ·exact ⟨⟨z.k, z.x, z.t, z.p + 1⟩, ⟨rfl, rfl, (wsucc (by omega)).symm, rfl, λ _ _ => rfl, rfl, rfl, rfl, rfl, λ _ _ => ⟨rfl, rfl, rfl⟩⟩, ⟨G_up hz hp, hzl⟩, by have := (pt_go hp).1; show (mB a.s).b.length - (z.p + 1) < _; omega⟩
   ·obtain ⟨e, e2⟩ := G_at hz hp
    have ho := G_out hz hm2
    have okl := G_line hz
    have hI : inv20 a _ z := hz
    have zs := hI.2.2.2.2.1
    have zs1 := zs.next (by omega) 6
    have zl : (z.x.l.length : Int) + z.k <= a.m := hI.2.2.2.2.2.2.1
    have bw := (G_bounds okl hI.2.2.2.2.2.2.2.1).1
    rw [<- e]
    refine ⟨⟨by omega, by omega⟩, λ hu => ?_, λ hu => ?_⟩
    ·have hu : (bif decide (upG (lnP a z.t) z.t < 0) then true else decide (upG (lnP a z.t) z.t > wr (1000 * wdG (lnP a z.t)))) = true := hu
     have es : stpG (lnP a z.t) z.x.s z.t z.x.l = z.x := by unfold stpG; rw [hu]; rfl
     rw [es] at ho
     exact ⟨⟨z.k, z.x⟩, ⟨rfl, rfl, rfl, λ _ _ => rfl, rfl, rfl, rfl, λ _ _ => ⟨rfl, rfl, rfl⟩⟩, ho, hzl⟩
    ·have hu : (bif decide (upG (lnP a z.t) z.t < 0) then true else decide (upG (lnP a z.t) z.t > wr (1000 * wdG (lnP a z.t)))) = false := hu
     have es : stpG (lnP a z.t) z.x.s z.t z.x.l = ⟨witS (nextS z.x.s 6) 1 6, z.x.l ++ [gauG (lnP a z.t) z.x.s z.t]⟩ := by unfold stpG; rw [hu]; rfl
     rw [es] at ho
     refine ⟨λ h0 => ?_, ⟨rfl, zs.used.1, rfl, rfl, zs1.used.1⟩, ⟨by omega, λ h => (by cases h), by omega, by omega⟩, ⟨z.k, ⟨witS (nextS z.x.s 6) 1 6, z.x.l ++ [gauG (lnP a z.t) z.x.s z.t]⟩⟩, ⟨by simp, rfl, rfl, λ _ _ => rfl, rfl, rfl, by simp, snocG _ _⟩, ho, by show 0 < (z.x.l ++ [_]).length; simp⟩
     have h0 : wdG (lnP a z.t) = 0 := h0
     have := okl.2.1; omega
   ·obtain ⟨n1, n2, n3⟩ := nx (show inv17m a _ z from hz)
    exact ⟨⟨z.k - 1, z.x⟩, ⟨n3, rfl, λ _ _ => rfl, rfl, rfl⟩, ⟨n1, hzl⟩, n2⟩
   ·obtain ⟨n1, n2, n3⟩ := nx (show inv17m a _ z from hz)
    exact ⟨⟨z.k - 1, z.x⟩, ⟨rfl, n3, rfl, λ _ _ => rfl, rfl, rfl, rfl, λ _ _ => ⟨rfl, rfl, rfl⟩⟩, ⟨n1, hzl⟩, n2⟩
  ·have hI : inv16 a y.k y.x := hy
   have e0 : y.x = mG a := by
    have := hI.2.2.2.1
    rw [show y.k = 0 by omega] at this; exact this
   obtain ⟨m1, m2⟩ := fl e0 hyl
   rw [m1, m2, <- e0]
   refine ⟨λ hc => ?_, λ _ => ⟨rfl, Nat.le_refl _, λ _ _ => ⟨rfl, rfl, rfl⟩, rfl, λ _ _ => rfl, rfl, λ _ _ => ⟨rfl, rfl, rfl, rfl⟩, rfl, λ _ _ => rfl, rfl, rfl⟩⟩
   have hc : ((y.x.l.length : Nat) : Int) = 0 := by simpa using hc
   omega
theorem ok_Made : SpecOk Try.prog n_Made (C_Made.spec dMkI) := okC C_Made A_Made [] [303] fn_Made (λ _ => by kernel_rfl) (λ _ => gok_cons ok_Next (gok_cons ok_Within gok_nil)) (λ (a : MkI) h => p_Made a (show preM a /\ True from h).1) (λ _ => noI rfl rfl) _
end Go.Bal
