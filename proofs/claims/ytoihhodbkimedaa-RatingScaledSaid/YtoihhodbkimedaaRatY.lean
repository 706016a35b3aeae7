/- Package rating: ratings and gaugings that are made of numbers. -/
import Derived.Test.YtoihhodbkimedaaRatW
set_option linter.unusedVariables false
set_option linter.unusedSimpArgs false
namespace Go.Bal
open Go Go.Sym Go.Proofs
structure MB where
 s : Stm
 a : Int
 b : List Int
 deriving Inhabited
def stpB (x : MB) : MB := ⟨US x.s 5 60, wr (x.a + JS x.s 5 60), x.b ++ [wr (x.a + JS x.s 5 60)]⟩
def mkB : Nat -> MB -> MB
 | 0, x => x
 | n + 1, x => mkB n (stpB x)
def mB (s : Stm) : MB := mkB (AN s 3).toNat ⟨BF s 3, 0, []⟩
structure ML where
 s : Stm
 l : List Ln
 deriving Inhabited
def lnS1 (s : Stm) : Stm := BF s 40
def lnS2 (s : Stm) : Stm := BF (lnS1 s) 60
def lnS3 (s : Stm) : Stm := US (lnS2 s) 1 60
def lnS4 (s : Stm) : Stm := BF (lnS3 s) 200
def mkLn (s : Stm) : Ln := ⟨AN s 40, AN (lnS1 s) 60, wr (AN s 40 + JS (lnS2 s) 1 60), wr (AN (lnS1 s) 60 + AN (lnS3 s) 200)⟩
def stpL (x : ML) : ML := ⟨lnS4 x.s, x.l ++ [mkLn x.s]⟩
def mkL : Nat -> ML -> ML
 | 0, x => x
 | n + 1, x => mkL n (stpL x)
def mL (s : Stm) : ML := mkL ((mB s).b.length + 1) ⟨(mB s).s, []⟩
structure MG where
 s : Stm
 l : List Gau
 deriving Inhabited
def ptK (b : List Int) (t : Int) : Nat -> Nat -> Nat
 | 0, k => k
 | n + 1, k => bif decide (gD b k <= t) then ptK b t n (k + 1) else k
def ptM (b : List Int) (t : Int) : Nat := ptK b t b.length 0
def Hl (x : Ln) (t : Int) : Int := wr (wr (x.a1 * wr (x.b0 - x.a0)) + wr (wr (x.b1 - x.a1) * wr (t - x.a0)))
def Vp (x : Ln) : Int := wr (x.b0 - x.a0)
def vG (x : Ln) (t : Int) : Int := wr ((Hl x t).tdiv (Vp x))
def mxG (n : Int) : Int := Ve 0 n
def Br (x : Ln) (s : Stm) (t : Int) : Gau := ⟨t, mxG (wr (vG x t - AN s 6)), wr (vG x t + JS (BF s 6) 1 6)⟩
def UU (x : Ln) (s : Stm) (t : Int) (l : List Gau) : MG := bif (bif decide (Hl x t < 0) then true else decide (Hl x t > wr (1000 * Vp x))) then ⟨s, l⟩ else ⟨US (BF s 6) 1 6, l ++ [Br x s t]⟩
def mkG (b : List Int) (ls : List Ln) (n : Int) : Nat -> MG -> MG
 | 0, x => x
 | k + 1, x => mkG b ls n k (UU (gD ls (ptM b (AN x.s n))) (BF x.s n) (AN x.s n) x.l)
structure MkI where
 s : Stm
 m : Int
def hiG (a : MkI) : Int := wr ((mB a.s).a + 80)
def mG0 (a : MkI) : MG := ⟨US (mL a.s).s 1 a.m, []⟩
def mG (a : MkI) : MG := mkG (mB a.s).b (mL a.s).l (hiG a) (JS (mL a.s).s 1 a.m).toNat (mG0 a)
def Qf (a : MkI) : List Gau := bif decide ((mG a).l.length = 0) then [⟨1, 1, 1⟩] else (mG a).l
def Hr (a : MkI) : Rtg := bif decide ((mG a).l.length = 0) then ⟨[], [⟨0, 0, 1, 1⟩]⟩ else ⟨(mB a.s).b, (mL a.s).l⟩
def okMk (x : Ln) : Prop := (0 <= x.a0 /\ x.a0 <= 39) /\ (1 <= x.b0 - x.a0 /\ x.b0 - x.a0 <= 60) /\ (0 <= x.a1 /\ x.a1 <= 59) /\ 0 <= x.b1 - x.a1 /\ x.b1 - x.a1 <= 199
structure KB where
 k : Nat
 x : MB
 deriving Inhabited
structure KL where
 k : Nat
 x : ML
 deriving Inhabited
structure KG where
 k : Nat
 x : MG
 deriving Inhabited
structure KP where
 k : Nat
 x : MG
 t : Int
 p : Nat
 deriving Inhabited
def mdS (a : MkI) : List (Nat × AVal) := [(0, .bptr 100 0), (1, .int a.m), (5, .bptr 1016 0), (6, .bptr 2000 0)]
def rtB (b l : AVal) : HCell := .live (.box [b, l])
def mdH (s : Stm) (b l : AVal) : List (Nat × HCell) := [(100, stmH s), (1016, zRtg), (2000, rtB b l)]
def M0 (a : MkI) : Prop := StmB 0 a.s /\ 1 <= a.m /\ a.m <= 100
def Hq (a : MkI) (y : KB) : Prop := y.k <= 2 /\ StmB (3 - y.k) y.x.s /\ mkB y.k y.x = mB a.s /\ (y.x.b.length : Int) + y.k <= 2 /\ 0 <= y.x.a /\ y.x.a <= 60 * (2 - y.k)
def md4n (a : MkI) : Shape := { α := KB, dflt := default, T := λ y => ⟨mdS a ++ [(7, .int y.x.a), (8, .int y.k)], mdH y.x.s (.d PD) (.d PD)⟩, inv := λ y => Hq a y /\ y.x.b = [], meas := λ y => y.k + 1 }
def md4o (a : MkI) : Shape := { α := KB, dflt := default, T := λ y => ⟨mdS a ++ [(7, .int y.x.a), (8, .int y.k)], mdH y.x.s (.own 301 1 0 y.x.b.length) (.d PD) ++ [(301, .live (rowI y.x.b))]⟩, inv := λ y => Hq a y, meas := λ y => y.k, again := [(301, 8064)] }
def md8 (a : MkI) : Shape := { α := One, dflt := default, T := λ _ => ⟨mdS a ++ [(7, .int (mB a.s).a)], mdH (mB a.s).s (.d (BL (mB a.s).b)) (.d PD)⟩, inv := λ _ => Hq a ⟨0, mB a.s⟩, meas := λ _ => 0, ffz := [301] }
def V4 (a : MkI) (y : KL) : Prop := Hq a ⟨0, mB a.s⟩ /\ y.k <= (mB a.s).b.length + 1 /\ StmB (3 + 4 * y.k) y.x.s /\ mkL ((mB a.s).b.length + 1 - y.k) y.x = mL a.s /\ y.x.l.length = y.k /\ ∀ z ∈ y.x.l, okMk z
def md9S (a : MkI) (k : Nat) : List (Nat × AVal) := mdS a ++ [(7, .int (mB a.s).a), (9, .int k)]
def md9n (a : MkI) : Shape := { α := KL, dflt := default, T := λ y => ⟨md9S a y.k, mdH y.x.s (.d (BL (mB a.s).b)) (.d PD)⟩, inv := λ y => V4 a y /\ y.k = 0, meas := λ y => (mB a.s).b.length + 3 }
def md9o (a : MkI) : Shape := { α := KL, dflt := default, T := λ y => ⟨md9S a y.k, mdH y.x.s (.d (BL (mB a.s).b)) (.own 302 4 0 y.x.l.length) ++ [(302, .live (rowL y.x.l))]⟩, inv := λ y => V4 a y, meas := λ y => (mB a.s).b.length + 1 - y.k, again := [(302, 14064)] }
def mdHG (a : MkI) (s : Stm) : List (Nat × HCell) := mdH s (.d (BL (mB a.s).b)) (.d (kI (mL a.s).l))
def md14 (a : MkI) : Shape := { α := One, dflt := default, T := λ _ => ⟨mdS a ++ [(7, .int (mB a.s).a)], mdHG a (mL a.s).s⟩, inv := λ _ => V4 a ⟨(mB a.s).b.length + 1, mL a.s⟩, meas := λ _ => 0, ffz := [302] }
def mdSG (a : MkI) (k : Nat) (v : AVal) : List (Nat × AVal) := [(0, .bptr 100 0), (5, .bptr 1016 0), (6, .bptr 2000 0), (7, .int (mB a.s).a), (11, v), (12, .int k)]
def fin9 (a : MkI) : Prop := V4 a ⟨(mB a.s).b.length + 1, mL a.s⟩
def mkGa (a : MkI) (k : Nat) (x : MG) : MG := mkG (mB a.s).b (mL a.s).l (hiG a) k x
def Vh (a : MkI) (k : Nat) (x : MG) : Prop := fin9 a /\ (k : Int) <= a.m /\ StmB (16 + 3 * (a.m - k)) x.s /\ mkGa a k x = mG a /\ (x.l.length : Int) + k <= a.m
def CNZ (a : MkI) : Shape := { α := KG, dflt := default, T := λ y => ⟨mdSG a y.k (.d PD), mdHG a y.x.s⟩, inv := λ y => Vh a y.k y.x /\ y.x.l = [], meas := λ y => y.k, tag := [0] }
def CPA (a : MkI) : Shape := { α := KG, dflt := default, T := λ y => ⟨mdSG a y.k (.own 303 3 0 y.x.l.length), mdHG a y.x.s ++ [(303, .live (rowG y.x.l))]⟩, inv := λ y => Vh a y.k y.x /\ 0 < y.x.l.length, meas := λ y => y.k, tag := [1] }
def Nv (a : MkI) (t : Int) : Ln := gD (mL a.s).l (ptM (mB a.s).b t)
def Vr (a : MkI) (m : Nat) (y : KP) : Prop := fin9 a /\ y.k = m /\ 1 <= y.k /\ (y.k : Int) <= a.m /\ StmB (17 + 3 * (a.m - y.k)) y.x.s /\ mkGa a (y.k - 1) (UU (Nv a y.t) y.x.s y.t y.x.l) = mG a /\ (y.x.l.length : Int) + y.k <= a.m /\ (0 <= y.t /\ y.t <= 199) /\ y.p <= (mB a.s).b.length /\ ptM (mB a.s).b y.t = ptK (mB a.s).b y.t ((mB a.s).b.length - y.p) y.p
def gauB (t : Int) : HCell := .live (.box [.int t, .int 0, .int 0])
def CPN (a : MkI) (m : Nat) : Shape := { α := KP, dflt := default, T := λ y => ⟨mdSG a y.k (.d PD) ++ [(13, .bptr 204 0), (14, .int y.p)], mdHG a y.x.s ++ [(204, gauB y.t)]⟩, inv := λ y => Vr a m y /\ y.x.l = [], meas := λ y => (mB a.s).b.length - y.p, first := [(204, 19080)] }
def CQA (a : MkI) (m : Nat) : Shape := { α := KP, dflt := default, T := λ y => ⟨mdSG a y.k (.own 303 3 0 y.x.l.length) ++ [(13, .bptr 204 0), (14, .int y.p)], mdHG a y.x.s ++ [(204, gauB y.t), (303, .live (rowG y.x.l))]⟩, inv := λ y => Vr a m y /\ 0 < y.x.l.length, meas := λ y => (mB a.s).b.length - y.p, first := [(204, 19080)] }
def Ng (a : MkI) (m : Nat) (y : KG) : Prop := y.k = m /\ 1 <= y.k /\ Vh a (y.k - 1) y.x
def COZ (a : MkI) (m : Nat) : Shape := { α := KG, dflt := default, T := λ y => ⟨mdSG a y.k (.d PD), mdHG a y.x.s⟩, inv := λ y => Ng a m y /\ y.x.l = [], meas := λ _ => 0 }
def CHI (a : MkI) (m : Nat) (f : List (Nat × Nat)) : Shape := { α := KG, dflt := default, T := λ y => ⟨mdSG a y.k (.own 303 3 0 y.x.l.length), mdHG a y.x.s ++ [(303, .live (rowG y.x.l))]⟩, inv := λ y => Ng a m y /\ 0 < y.x.l.length, meas := λ _ => 0, first := f }
def dMkI : List AVal -> Heap -> Option (MkI × List (Nat × Nat) × List Nat)
 | [.bptr p _, .d (.v (.int _ n))], H => match BOW H p with
  | some s => some (⟨s, n⟩, [(100, p)], [])
  | none => none
 | _, _ => none
def C_Made : Ctr := { α := MkI, xs := λ a => [.bptr 100 0, .int a.m], L := λ a => [(100, stmO a.s)], val := λ a => .tup [.d (BO (Qf a)), .d (eRtg (Hr a))], keep := λ a => [(100, stmH (mG a).s)], pre := λ a => [M0 a /\ True] }
def BOK (a : MkI) : Ann := { ann 169 [(N8, C_Next.spec mU), (AOC, C_Within.spec BJN)] with E := [100], mt := λ id => id == 7 || id == 13 || id == 28, md := λ id => if id = 30 then some (λ k => if k = 2 then 4 else 0) else if id = 31 then some (λ k => if k = 3 then 4 else 0) else none, loops := λ id => if id = 4 then some [md4n a, md4o a] else if id = 9 then some [md9n a, md9o a] else if id = 16 then some [CNZ a, CPA a] else none, inner := λ gs id => if id = 20 then (if gs.getD 1 0 = 0 then some [CPN a (gs.getD 0 0)] else some [CQA a (gs.getD 0 0)]) else none, cut := λ id => if id = 8 then some [md8 a] else if id = 14 then some [md14 a] else none, cutIn := λ gs id => if id = 17 then some [COZ a (gs.getD 0 0), CHI a (gs.getD 0 0) [(303, 29048)], CHI a (gs.getD 0 0) []] else none }
def CCZ (a : MkI) : Prop := AY Try.prog (BOK a) BNE (AF BNE) (C_Made.xs a) (AC (C_Made.L a)) (C_Made.val a) (C_Made.keep a) [] [303]
abbrev yB (a : MkI) : List Int := AD a.s.bs.length λ (i : Nat) => gD a.s.bs i
abbrev AOO (a : MkI) : Nat := (yB a).length
abbrev AQC (a : MkI) : Stm := Stm.mk (yB a) a.s.used a.s.mix
abbrev sR (a : MkI) : Stm := BF (AQC a) (3 : Int)
abbrev ATL (a : MkI) : List Int := (sR a).bs
abbrev AMQ (i : Nat) (a : KB) : Prop := i < a.x.s.bs.length
abbrev AJ : Prop := (0 : Nat) = (0 : Nat)
abbrev AM : Prop := ∀ (i : Nat), i < (0 : Nat) -> false = false
abbrev Ls : Prop := AJ /\ AM
abbrev Iw (a : KB) (a1 : MkI) : Prop := a.k <= (2 : Nat) /\ StmB ((3 : Int) - (↑a.k : Int)) a.x.s /\ mkB a.k a.x = mB a1.s /\ (↑a.x.b.length : Int) + (↑a.k : Int) <= (2 : Int) /\ (0 : Int) <= a.x.a /\ a.x.a <= (60 : Int) *
 ((2 : Int) - (↑a.k : Int))
abbrev U7 (a : KB) (a1 : MkI) : Prop := Iw a a1 /\ a.x.b = []
abbrev ADH (a : KB) : Bool := decide ((↑a.k : Int) > (0 : Int))
abbrev Qh : Prop := (60 : Int) = Int.ofNat (60 : Nat)
abbrev Tc (a : KB) : List Int := AD a.x.s.bs.length λ (i : Nat) => gD a.x.s.bs i
abbrev ABF (a : KB) : Nat := (Tc a).length
abbrev V3 (a : KB) : Prop := (5 : Int) = Int.ofNat (5 : Nat) /\ Qh /\ ABF a = a.x.s.bs.length /\ (∀ (i : Nat), i < ABF a -> gD (Tc a) i = gD a.x.s.bs i) /\ a.x.s.used = a.x.s.used /\ a.x.s.mix
 = a.x.s.mix /\ (a.x.s.used - (0 : Int)).NonNeg
abbrev Ov : Prop := (0 : Nat) < (0 : Nat)
abbrev Te : Prop := (1 : Nat) <= (1 : Nat)
abbrev QU : Prop := (0 : Nat) < (1 : Nat)
abbrev zC : Prop := (1 : Nat) = (1 : Nat)
abbrev V5 : Prop := Te /\ (QU -> zC)
abbrev Qb : Prop := true = true -> QU
abbrev Qm : Prop := (1 : Nat) <= (9223372036854775807 : Nat)
abbrev J0 (a : KB) : Stm := Stm.mk (Tc a) a.x.s.used a.x.s.mix
abbrev Pn (a : KB) : Int := IntKind.i64.wrap (a.x.a + JS (J0 a) (5 : Int) (60 : Int))
abbrev L7 (a : KB) (a1 : KB) : Prop := a.x.a = Pn a1
abbrev J4 (a : KB) (a1 : KB) : Prop := (↑a.k : Int) = IntKind.i64.wrap ((↑a1.k : Int) - (1 : Int))
abbrev Uf (a : KB) : Stm := US (J0 a) (5 : Int) (60 : Int)
abbrev AAY (a : KB) : List Int := (Uf a).bs
abbrev AEH (a : KB) (a1 : KB) : Prop := a.x.s.bs.length = (AAY a1).length
abbrev zZ (a : KB) (a1 : KB) : Prop := ∀ (i : Nat), AMQ i a -> gD a.x.s.bs i = gD (AAY a1) i
abbrev Y0 (a : KB) (a1 : KB) : Prop := a.x.s.used = (Uf a1).used
abbrev AAP (a : KB) (a1 : KB) : Prop := a.x.s.mix = (Uf a1).mix
abbrev A3 (a : KB) : Prop := a.x.b.length = (1 : Nat)
abbrev AAK (a : MkI) (a1 : KB) : Prop := (mB a.s).s.bs.length = a1.x.s.bs.length
abbrev ACI (a : MkI) (a1 : KB) : Prop := ∀ (i : Nat), i < (mB a.s).s.bs.length -> gD (mB a.s).s.bs i = gD a1.x.s.bs i
abbrev zV (a : MkI) (a1 : KB) : Prop := (mB a.s).s.used = a1.x.s.used
abbrev A2 (a : MkI) (a1 : KB) : Prop := (mB a.s).s.mix = a1.x.s.mix
abbrev U9 (a : MkI) : Prop := (mB a.s).b.length = (0 : Nat)
abbrev RA (a : MkI) : Prop := (0 : Nat) <= (2 : Nat) /\ StmB ((3 : Int) - (↑(0 : Nat) : Int)) (mB a.s).s /\ mkB (0 : Nat) (mB a.s) = mB a.s /\ (↑(mB a.s).b.length : Int) + (↑(0 : Nat) : Int) <= (2 : Int) /\ (0 : Int) <=
 (mB a.s).a /\ (mB a.s).a <= (60 : Int) * ((2 : Int) - (↑(0 : Nat) : Int))
abbrev QX : Prop := false = true -> QU
abbrev Uz (a : KB) : Nat := a.x.b.length + (1 : Nat)
abbrev AAZ (a : KB) (a1 : KB) : Prop := a.x.b.length = Uz a1
abbrev B7 (j : Nat) (a : MkI) : Prop := j < (mB a.s).b.length
abbrev Ri (j : Nat) : Nat := (0 : Nat) + j
abbrev CZ (a : MkI) : Prop := (mB a.s).a = (mB a.s).a
abbrev Y2 (i : Nat) (a : KL) : Prop := i < a.x.s.bs.length
abbrev DN (a : MkI) : Prop := (mB a.s).b.length = (mB a.s).b.length
abbrev DO (a : MkI) : Prop := ∀ (i : Nat), B7 i a -> gD (mB a.s).b i = gD (mB a.s).b i
abbrev IG (a : MkI) : Nat := (mB a.s).b.length + (1 : Nat)
abbrev XA (a : MkI) (a1 : KL) : Nat := IG a - a1.k
abbrev zN (z : Ln) : Int := z.b0 - z.a0
abbrev C8 (z : Ln) : Int := z.b1 - z.a1
abbrev E5 (z : Ln) : Prop := ((0 : Int) <= z.a0 /\ z.a0 <= (39 : Int)) /\ ((1 : Int) <= zN z /\ zN z <= (60 : Int)) /\ ((0 : Int) <= z.a1 /\ z.a1 <= (59 : Int)) /\ (0 : Int) <= C8 z /\ C8 z <= (199 :
 Int)
abbrev WJ (a : MkI) (a1 : KL) : Prop := RA a /\ a1.k <= IG a /\ StmB ((3 : Int) + (4 : Int) * (↑a1.k : Int)) a1.x.s /\ mkL (XA a a1) a1.x = mL a.s /\ a1.x.l.length = a1.k /\ ∀ (z : Ln), List.Mem z
 a1.x.l -> E5 z
abbrev P6 (a : MkI) (a1 : KL) : Prop := WJ a a1 /\ a1.k = (0 : Nat)
abbrev W8 (a : KL) (a1 : MkI) : Bool := decide ((↑a.k : Int) <= (↑(mB a1.s).b.length : Int))
abbrev Sd (a : KL) : List Int := AD a.x.s.bs.length λ (i : Nat) => gD a.x.s.bs i
abbrev Z8 (a : KL) : Nat := (Sd a).length
abbrev ADO (a : KL) : Stm := Stm.mk (Sd a) a.x.s.used a.x.s.mix
abbrev Sk (a : KL) : Stm := BF (ADO a) (40 : Int)
abbrev K0 (a : KL) : List Int := (Sk a).bs
abbrev D4 (a : KL) : Nat := (K0 a).length
abbrev ABB (a : KL) (i : Nat) : Int := gD (K0 a) i
abbrev Qo (a : KL) : List Int := AD (D4 a) λ (i : Nat) => ABB a i
abbrev O9 (a : KL) : Nat := (Qo a).length
abbrev XO (a : KL) : Int := (Sk a).used
abbrev Sj (a : KL) : Int := (Sk a).mix
abbrev Y3 (a : KL) : Prop := (40 : Int) = Int.ofNat (40 : Nat) /\ Z8 a = a.x.s.bs.length /\ (∀ (i : Nat), i < Z8 a -> gD (Sd a) i = gD a.x.s.bs i) /\ a.x.s.used = a.x.s.used /\ a.x.s.mix =
 a.x.s.mix /\ (0 : Int) <= a.x.s.used /\ Qh /\ O9 a = D4 a /\ (∀ (i : Nat), i < O9 a -> gD (Qo a) i = ABB a i) /\ XO a = XO a /\ Sj a = Sj a /\ (XO a - (0
 : Int)).NonNeg
abbrev Uw : Prop := (1 : Int) = Int.ofNat (1 : Nat)
abbrev AAA (a : KL) : Stm := Stm.mk (Qo a) (XO a) (Sj a)
abbrev Rv (a : KL) : Stm := BF (AAA a) (60 : Int)
abbrev ACT (a : KL) : List Int := (Rv a).bs
abbrev Z0 (a : KL) : Nat := (ACT a).length
abbrev D0 (a : KL) (i : Nat) : Int := gD (ACT a) i
abbrev Sm (a : KL) : List Int := AD (Z0 a) λ (i : Nat) => D0 a i
abbrev I7 (a : KL) : Nat := (Sm a).length
abbrev ZX (a : KL) : Int := (Rv a).used
abbrev Sc (a : KL) : Int := (Rv a).mix
abbrev X1 (a : KL) : Stm := Stm.mk (Sm a) (ZX a) (Sc a)
abbrev Qa (a : KL) : Stm := US (X1 a) (1 : Int) (60 : Int)
abbrev ACJ (a : KL) : List Int := (Qa a).bs
abbrev L5 (a : KL) : Nat := (ACJ a).length
abbrev yQ (a : KL) (i : Nat) : Int := gD (ACJ a) i
abbrev Pv (a : KL) : List Int := AD (L5 a) λ (i : Nat) => yQ a i
abbrev E2 (a : KL) : Nat := (Pv a).length
abbrev ZI (a : KL) : Int := (Qa a).used
abbrev Rb (a : KL) : Int := (Qa a).mix
abbrev F9 (a : KL) : Prop := Uw /\ Qh /\ I7 a = Z0 a /\ (∀ (i : Nat), i < I7 a -> gD (Sm a) i = D0 a i) /\ ZX a = ZX a /\ Sc a = Sc a /\ (0 :
 Int) <= ZX a /\ (200 : Int) = Int.ofNat (200 : Nat) /\ E2 a = L5 a /\ (∀ (i : Nat), i < E2 a -> gD (Pv a) i = yQ a i) /\ ZI a = ZI a /\ Rb a = Rb a /\
 (ZI a - (0 : Int)).NonNeg
abbrev K3 : Prop := (4 : Nat) = (4 : Nat)
abbrev zB : Prop := Te /\ (QU -> K3)
abbrev AAJ (a : KL) (a1 : KL) : Prop := (↑a.k : Int) = IntKind.i64.wrap ((↑a1.k : Int) + (1 : Int))
abbrev U4 (a : KL) : Stm := Stm.mk (Pv a) (ZI a) (Rb a)
abbrev Rg (a : KL) : Stm := BF (U4 a) (200 : Int)
abbrev ACX (a : KL) : List Int := (Rg a).bs
abbrev E6 (a : KL) (a1 : KL) : Prop := a.x.s.bs.length = (ACX a1).length
abbrev Q0 (a : KL) (a1 : KL) : Prop := ∀ (i : Nat), Y2 i a -> gD a.x.s.bs i = gD (ACX a1) i
abbrev N1 (a : KL) (a1 : KL) : Prop := a.x.s.used = (Rg a1).used
abbrev ACW (a : KL) (a1 : KL) : Prop := a.x.s.mix = (Rg a1).mix
abbrev M7 (a : KL) : Prop := a.x.l.length = (1 : Nat)
abbrev Hf (a : KL) : Int := AN (ADO a) (40 : Int)
abbrev Dx (a : KL) : Int := AN (AAA a) (60 : Int)
abbrev dA (a : KL) : Int := IntKind.i64.wrap (Hf a + JS (X1 a) (1 : Int) (60 : Int))
abbrev gQ (a : KL) : Int := IntKind.i64.wrap (Dx a + AN (U4 a) (200 : Int))
abbrev Ym (a : MkI) (a1 : KL) : Prop := (mL a.s).s.bs.length = a1.x.s.bs.length
abbrev dJ (a : MkI) (a1 : KL) : Prop := ∀ (i : Nat), i < (mL a.s).s.bs.length -> gD (mL a.s).s.bs i = gD a1.x.s.bs i
abbrev lS (a : MkI) (a1 : KL) : Prop := (mL a.s).s.used = a1.x.s.used
abbrev kK (a : MkI) (a1 : KL) : Prop := (mL a.s).s.mix = a1.x.s.mix
abbrev Wy (a : MkI) : Prop := (mL a.s).l.length = (0 : Nat)
abbrev JR (a : MkI) : Prop := RA a /\ IG a <= IG a /\ StmB ((3 : Int) + (4 : Int) * (↑(IG a) : Int)) (mL a.s).s /\ mkL (IG a - IG a) (mL a.s) = mL a.s /\ (mL a.s).l.length =
 IG a /\ ∀ (z : Ln), List.Mem z (mL a.s).l -> E5 z
abbrev Fc (a : KL) : Nat := a.x.l.length + (1 : Nat)
abbrev hJ (a : KL) (a1 : KL) : Prop := a.x.l.length = Fc a1
abbrev TZ (i : Nat) (a : KL) : Bool := decide (i < a.x.l.length)
abbrev Yt (j : Nat) (a : MkI) : Prop := j < (mL a.s).l.length
abbrev UM (a : KL) (j : Nat) : Ln := gD a.x.l (Ri j)
abbrev Dr (a : MkI) : List Int := AD (mL a.s).s.bs.length λ (i : Nat) => gD (mL a.s).s.bs i
abbrev Zx (a : MkI) : Nat := (Dr a).length
abbrev cL (a : MkI) : Stm := Stm.mk (Dr a) (mL a.s).s.used (mL a.s).s.mix
abbrev Cy (a : MkI) : Stm := US (cL a) (1 : Int) a.m
abbrev Yo (a : MkI) : List Int := (Cy a).bs
abbrev RM (i : Nat) (a : KG) : Prop := i < a.x.s.bs.length
abbrev FL (a : MkI) : Prop := (mL a.s).l.length = (mL a.s).l.length
abbrev FP (a : MkI) : Prop := ∀ (i : Nat), Yt i a -> (gD (mL a.s).l i).a0 = (gD (mL a.s).l i).a0 /\ (gD (mL a.s).l i).a1 = (gD (mL a.s).l i).a1 /\ (gD (mL a.s).l i).b0 = (gD (mL a.s).l i).b0 /\ (gD (mL a.s).l
 i).b1 = (gD (mL a.s).l i).b1
abbrev Bb (a : MkI) : Prop := AJ /\ AM /\ AJ /\ AM /\ DN a /\ DO a /\ FL a /\ FP a
abbrev eJ (a : MkI) (a1 : KG) : Prop := JR a /\ (↑a1.k : Int) <= a.m /\ StmB ((16 : Int) + (3 : Int) * (a.m - (↑a1.k : Int))) a1.x.s /\ mkGa a a1.k a1.x = mG a /\ (↑a1.x.l.length : Int) + (↑a1.k : Int) <= a.m
abbrev Cs (a : MkI) (a1 : KG) : Prop := eJ a a1 /\ a1.x.l = []
abbrev kY (a : KG) : Bool := decide ((↑a.k : Int) > (0 : Int))
abbrev UB (a : MkI) : Int := IntKind.i64.wrap ((mB a.s).a + (80 : Int))
abbrev Dh (a : KG) : List Int := AD a.x.s.bs.length λ (i : Nat) => gD a.x.s.bs i
abbrev gY (a : KG) : Nat := (Dh a).length
abbrev lA (a : MkI) (a1 : KG) : Prop := UB a = UB a /\ gY a1 = a1.x.s.bs.length /\ (∀ (i : Nat), i < gY a1 -> gD (Dh a1) i = gD a1.x.s.bs i) /\ a1.x.s.used = a1.x.s.used /\
 a1.x.s.mix = a1.x.s.mix /\ (a1.x.s.used - (0 : Int)).NonNeg
abbrev kV (a : KP) (a1 : KG) : Prop := (↑a.k : Int) = (↑a1.k : Int)
abbrev Yr (a : KP) : Prop := (↑a.p : Int) = (0 : Int)
abbrev kU (a : KG) : Stm := Stm.mk (Dh a) a.x.s.used a.x.s.mix
abbrev Dk (a : KG) (a1 : MkI) : Stm := BF (kU a) (UB a1)
abbrev oG (a : KG) (a1 : MkI) : List Int := (Dk a a1).bs
abbrev Yf (a : KP) (a1 : KG) (a2 : MkI) : Prop := a.x.s.bs.length = (oG a1 a2).length
abbrev Yn (i : Nat) (a : KP) : Prop := i < a.x.s.bs.length
abbrev gH (a : KP) (a1 : KG) (a2 : MkI) : Prop := ∀ (i : Nat), Yn i a -> gD a.x.s.bs i = gD (oG a1 a2) i
abbrev mI (a : KP) (a1 : KG) (a2 : MkI) : Prop := a.x.s.used = (Dk a1 a2).used
abbrev fA (a : KP) (a1 : KG) (a2 : MkI) : Prop := a.x.s.mix = (Dk a1 a2).mix
abbrev Xd (a : KP) (a1 : KG) (a2 : MkI) : Prop := a.t = AN (kU a1) (UB a2)
abbrev JO : Prop := Int.ofNat (0 : Nat) = Int.ofNat (0 : Nat)
abbrev nI : Prop := JO /\ JO
abbrev Cr (a : MkI) (a1 : KP) : Nat := (mB a.s).b.length - a1.p
abbrev jI (a : MkI) (a1 : KP) (a2 : KG) : Prop := JR a /\ a1.k = a2.k /\ (1 : Nat) <= a1.k /\ (↑a1.k : Int) <= a.m /\ StmB ((17 : Int) + (3 : Int) * (a.m - (↑a1.k : Int))) a1.x.s /\ mkGa a (a1.k - (1 : Nat))
 (UU (Nv a a1.t) a1.x.s a1.t a1.x.l) = mG a /\ (↑a1.x.l.length : Int) + (↑a1.k : Int) <= a.m /\ ((0 : Int) <= a1.t /\ a1.t <= (199 : Int)) /\ a1.p <= (mB a.s).b.length /\ ptM (mB a.s).b a1.t = ptK (mB a.s).b a1.t (Cr a
 a1) a1.p
abbrev Fu (a : MkI) (a1 : KP) (a2 : KG) : Prop := jI a a1 a2 /\ a1.x.l = []
abbrev nV (a : KP) (a1 : MkI) : Prop := (↑a.p : Int) < (↑(mB a1.s).b.length : Int)
abbrev Zr (a : KP) (a1 : MkI) : Bool := decide (nV a a1)
abbrev jR (a : KP) : Prop := (0 : Int) <= (↑a.p : Int)
abbrev jL (a : KP) (a1 : MkI) : Prop := Zr a a1 = true -> jR a /\ nV a a1
abbrev nD (a : KP) (a1 : MkI) : Bool := bif Zr a a1 then decide (gD (mB a1.s).b a.p <= a.t) else false
abbrev aI (a : KP) (a1 : KP) : Prop := (↑a.k : Int) = (↑a1.k : Int)
abbrev cP (a : KP) (a1 : KP) : Prop := (↑a.p : Int) = IntKind.i64.wrap ((↑a1.p : Int) + (1 : Int))
abbrev iR (a : KP) (a1 : KP) : Prop := a.x.s.bs.length = a1.x.s.bs.length
abbrev mV (a : KP) (a1 : KP) : Prop := ∀ (i : Nat), Yn i a -> gD a.x.s.bs i = gD a1.x.s.bs i
abbrev hX (a : KP) (a1 : KP) : Prop := a.x.s.used = a1.x.s.used
abbrev gM (a : KP) (a1 : KP) : Prop := a.x.s.mix = a1.x.s.mix
abbrev Ye (a : MkI) (a1 : KP) (a2 : KP) : Prop := Cr a a1 < Cr a a2
abbrev eR (a : KP) (a1 : MkI) : Prop := jR a /\ (↑a.p : Int) < (↑(mL a1.s).l.length : Int)
abbrev Ze (a : MkI) (a1 : KP) : Int := (gD (mL a.s).l a1.p).a1
abbrev lK (a : MkI) (a1 : KP) : Int := (gD (mL a.s).l a1.p).a0
abbrev SY (a : MkI) (a1 : KP) : Int := IntKind.i64.wrap ((gD (mL a.s).l a1.p).b0 - lK a a1)
abbrev Ba (a : MkI) (a1 : KP) : Int := IntKind.i64.wrap (IntKind.i64.wrap (Ze a a1 * SY a a1) + IntKind.i64.wrap (IntKind.i64.wrap ((gD (mL a.s).l a1.p).b1 - Ze a a1) * IntKind.i64.wrap
 (a1.t - lK a a1)))
abbrev aJ (a : MkI) (a1 : KP) : Bool := bif decide (Ba a a1 < (0 : Int)) then true else decide (Ba a a1 > IntKind.i64.wrap ((1000 : Int) * SY a a1))
abbrev SV (a : KG) (a1 : KP) : Prop := (↑a.k : Int) = (↑a1.k : Int)
abbrev nT (a : KG) (a1 : KP) : Prop := a.x.s.bs.length = a1.x.s.bs.length
abbrev lF (a : KG) (a1 : KP) : Prop := ∀ (i : Nat), RM i a -> gD a.x.s.bs i = gD a1.x.s.bs i
abbrev Xg (a : KG) (a1 : KP) : Prop := a.x.s.used = a1.x.s.used
abbrev fB (a : KG) (a1 : KP) : Prop := a.x.s.mix = a1.x.s.mix
abbrev RO (a : KG) : Nat := a.k - (1 : Nat)
abbrev gX (a : KG) (a1 : KG) (a2 : MkI) : Prop := a.k = a1.k /\ (1 : Nat) <= a.k /\ JR a2 /\ (↑(RO a) : Int) <= a2.m /\ StmB ((16 : Int) + (3 : Int) * (a2.m - (↑(RO a) : Int))) a.x.s /\ mkGa a2
 (RO a) a.x = mG a2 /\ (↑a.x.l.length : Int) + (↑(RO a) : Int) <= a2.m
abbrev mA (a : KG) (a1 : KG) (a2 : MkI) : Prop := gX a a1 a2 /\ a.x.l = []
abbrev gW (a : MkI) (a1 : KP) : Prop := SY a a1 = (0 : Int) -> False
abbrev lY : Prop := (6 : Int) = Int.ofNat (6 : Nat)
abbrev Bf (a : KP) : List Int := AD a.x.s.bs.length λ (i : Nat) => gD a.x.s.bs i
abbrev Xy (a : KP) : Nat := (Bf a).length
abbrev aT (a : KP) : Stm := Stm.mk (Bf a) a.x.s.used a.x.s.mix
abbrev Bi (a : KP) : Stm := BF (aT a) (6 : Int)
abbrev dR (a : KP) : List Int := (Bi a).bs
abbrev jX (a : KP) : Nat := (dR a).length
abbrev iM (a : KP) (i : Nat) : Int := gD (dR a) i
abbrev Fq (a : KP) : List Int := AD (jX a) λ (i : Nat) => iM a i
abbrev Yh (a : KP) : Nat := (Fq a).length
abbrev SG (a : KP) : Int := (Bi a).used
abbrev Fh (a : KP) : Int := (Bi a).mix
abbrev Xn (a : KP) : Prop := lY /\ Xy a = a.x.s.bs.length /\ (∀ (i : Nat), i < Xy a -> gD (Bf a) i = gD a.x.s.bs i) /\ a.x.s.used = a.x.s.used /\ a.x.s.mix = a.x.s.mix /\ (0 : Int) <=
 a.x.s.used /\ Uw /\ lY /\ Yh a = jX a /\ (∀ (i : Nat), i < Yh a -> gD (Fq a) i = iM a i) /\ SG a = SG a /\ Fh a = Fh a /\ (SG a - (0
 : Int)).NonNeg
abbrev Zi : Prop := True /\ (Ov -> (0 : Nat) = (3 : Nat))
abbrev Cj : Prop := (3 : Nat) = (3 : Nat)
abbrev jJ : Prop := QU -> Cj
abbrev aD : Prop := Te /\ jJ
abbrev eI : Prop := Qm /\ (24 : Nat) <= (140737488355328 : Nat)
abbrev jS (a : KG) : Prop := a.x.l.length = (1 : Nat)
abbrev Wr (a : KP) : Stm := Stm.mk (Fq a) (SG a) (Fh a)
abbrev Eg (a : KP) : Stm := US (Wr a) (1 : Int) (6 : Int)
abbrev fG (a : KP) : List Int := (Eg a).bs
abbrev aC (a : KG) (a1 : KP) : Prop := a.x.s.bs.length = (fG a1).length
abbrev kT (a : KG) (a1 : KP) : Prop := ∀ (i : Nat), RM i a -> gD a.x.s.bs i = gD (fG a1) i
abbrev kO (a : KG) (a1 : KP) : Prop := a.x.s.used = (Eg a1).used
abbrev gL (a : KG) (a1 : KP) : Prop := a.x.s.mix = (Eg a1).mix
abbrev cN (a : MkI) (a1 : KP) : Int := IntKind.i64.wrap ((Ba a a1).tdiv (SY a a1))
abbrev Wl (a : MkI) (a1 : KP) : Int := Ve (0 : Int) (IntKind.i64.wrap (cN a a1 - AN (aT a1) (6 : Int)))
abbrev jW (a : MkI) (a1 : KP) : Int := IntKind.i64.wrap (cN a a1 + JS (Wr a1) (1 : Int) (6 : Int))
abbrev Fe (a : KG) : Prop := (0 : Nat) < a.x.l.length
abbrev SR (a : KG) (a1 : KG) (a2 : MkI) : Prop := gX a a1 a2 /\ Fe a
abbrev Xe (a : KG) (a1 : KG) : Prop := (↑a.k : Int) = IntKind.i64.wrap ((↑a1.k : Int) - (1 : Int))
abbrev Yi (a : KG) (a1 : KG) : Prop := a.x.s.bs.length = a1.x.s.bs.length
abbrev Wj (a : KG) (a1 : KG) : Prop := ∀ (i : Nat), RM i a -> gD a.x.s.bs i = gD a1.x.s.bs i
abbrev hC (a : KG) (a1 : KG) : Prop := a.x.s.used = a1.x.s.used
abbrev iV (a : KG) (a1 : KG) : Prop := a.x.s.mix = a1.x.s.mix
abbrev kN (a : KG) (a1 : KG) : Prop := a.x.l.length = a1.x.l.length
abbrev lJ (a : MkI) (a1 : KG) : Prop := eJ a a1 /\ Fe a1
abbrev jU (a : KG) (a1 : MkI) : Prop := ∀ (a_1 : KG), SR a_1 a a1 -> ∃ (a_3 : KG), (CZ a1 /\ AJ /\ kN a_3 a_1 /\ Xe a_3 a_1 /\ Yi a_3 a_1 /\ Wj a_3 a_1 /\ hC
 a_3 a_1 /\ iV a_3 a_1 /\ AJ /\ AM /\ AJ /\ AM /\ DN a1 /\ DO a1 /\ FL a1 /\ FP a1 /\ kN a_3 a_1 /\ ∀ (i : Nat), i < a_3.x.l.length -> (gD a_3.x.l i).st = (gD
 a_1.x.l i).st /\ (gD a_3.x.l i).lo = (gD a_1.x.l i).lo /\ (gD a_3.x.l i).hi = (gD a_1.x.l i).hi) /\ lJ a1 a_3 /\ a_3.k < a.k
abbrev cW (a : KG) (a1 : MkI) : Prop := (∀ (a_1 : KG), mA a_1 a a1 -> ∃ (a_3 : KG), (CZ a1 /\ AJ /\ AM /\ Xe a_3 a_1 /\ Yi a_3 a_1 /\ Wj a_3 a_1 /\ hC a_3 a_1 /\
 iV a_3 a_1 /\ Bb a1) /\ Cs a1 a_3 /\ a_3.k < a.k) /\ jU a a1 /\ jU a a1
abbrev bF : Prop := True /\ jJ
abbrev gB (a : MkI) : Prop := (Hr a).b.length = (0 : Nat)
abbrev fO (a : MkI) (a1 : KG) : Prop := (mG a).s.bs.length = a1.x.s.bs.length /\ (∀ (i : Nat), i < (mG a).s.bs.length -> gD (mG a).s.bs i = gD a1.x.s.bs i) /\ (mG a).s.used = a1.x.s.used /\ (mG a).s.mix = a1.x.s.mix
abbrev Wa (a : MkI) (a1 : KG) : Prop := gB a /\ gB a /\ (Hr a).l.length = (1 : Nat) /\ (∀ (i : Nat), i < (Hr a).l.length -> (gD (Hr a).l i).a0 = (0 : Int) /\ (gD (Hr a).l i).a1 = (0 : Int) /\ (gD
 (Hr a).l i).b0 = (1 : Int) /\ (gD (Hr a).l i).b1 = (1 : Int)) /\ fO a a1
abbrev Xs (a : KP) (a1 : KG) : Prop := a.x.l.length = a1.x.l.length
abbrev fF (a : KP) : Prop := (0 : Nat) < a.x.l.length
abbrev Gr (a : MkI) (a1 : KP) (a2 : KG) : Prop := jI a a1 a2 /\ fF a1
abbrev aX (a : KP) (a1 : KP) : Prop := a.x.l.length = a1.x.l.length
abbrev jE (a : KG) (a1 : KP) : Prop := a.x.l.length = a1.x.l.length
abbrev Fg (a : KP) : Nat := a.x.l.length + (1 : Nat)
abbrev dT (a : KG) (a1 : KP) : Prop := a.x.l.length = Fg a1
abbrev Cq (i : Nat) (a : KP) : Bool := decide (i < a.x.l.length)
abbrev Cf (a : KG) : Nat := a.x.l.length + (1 : Nat)
abbrev Bq (i : Nat) (a : KG) : Bool := decide (i < a.x.l.length)
abbrev Ga (a : KG) (j : Nat) : Gau := gD a.x.l (Ri j)
theorem CFS (a : MkI) : (CCZ a) = ((((3 : Int) = Int.ofNat (3 : Nat) /\ AOO a = a.s.bs.length /\ (∀ (i : Nat), i < AOO a -> gD (yB a) i = gD a.s.bs i) /\ a.s.used = a.s.used /\ a.s.mix = a.s.mix /\
 (a.s.used - (0 : Int)).NonNeg) /\ (∃ (a_1 : KB), (a.m = a.m /\ a_1.x.a = (0 : Int) /\ (↑a_1.k : Int) = AN (AQC a) (3 : Int) /\ a_1.x.s.bs.length = (ATL a).length /\ (∀ (i : Nat), AMQ i a_1 -> gD a_1.x.s.bs i
 = gD (ATL a) i) /\ a_1.x.s.used = (sR a).used /\ a_1.x.s.mix = (sR a).mix /\ AJ /\ AM /\ AJ /\ AM /\ AJ /\ AM /\ Ls) /\ U7 a_1 a) /\ (∀ (a_1 : KB), U7 a_1 a ->
 bif ADH a_1 then V3 a_1 /\ ((True /\ (Ov -> (0 : Nat) = (1 : Nat))) /\ V5 /\ Qb /\ Qm /\ (8 : Nat) <= (140737488355328 : Nat)) /\ ∃ (a_3 : KB), (a.m = a.m /\ L7 a_3 a_1 /\ J4
 a_3 a_1 /\ AEH a_3 a_1 /\ zZ a_3 a_1 /\ Y0 a_3 a_1 /\ AAP a_3 a_1 /\ AJ /\ AM /\ AJ /\ AM /\ AJ /\ A3 a_3 /\ AJ /\ AM /\ A3 a_3 /\ ∀ (i : Nat), i <
 a_3.x.b.length -> gD a_3.x.b i = Pn a_1) /\ Iw a_3 a /\ a_3.k < a_1.k + (1 : Nat) else ∃ (a_3 : One), (a.m = a.m /\ (mB a.s).a = a_1.x.a /\ AAK a a_1 /\ ACI a a_1 /\ zV a a_1 /\ A2 a a_1 /\
 AJ /\ AM /\ AJ /\ AM /\ U9 a /\ U9 a /\ Ls) /\ RA a) /\ ∀ (a_1 : KB), Iw a_1 a -> bif ADH a_1 then V3 a_1 /\ ((a_1.x.b.length = a_1.x.b.length /\ ((0 : Nat) <
 a_1.x.b.length -> zC)) /\ V5 /\ QX /\ Uz a_1 <= (9223372036854775807 : Nat) /\ Uz a_1 * (8 : Nat) <= (140737488355328 : Nat)) /\ ∃ (a_3 : KB), (a.m = a.m /\ L7 a_3 a_1 /\ J4 a_3 a_1
 /\ AEH a_3 a_1 /\ zZ a_3 a_1 /\ Y0 a_3 a_1 /\ AAP a_3 a_1 /\ AJ /\ AM /\ AJ /\ AM /\ AJ /\ AAZ a_3 a_1 /\ AJ /\ AM /\ AAZ a_3 a_1 /\ ∀ (i : Nat), i <
 a_3.x.b.length -> gD a_3.x.b i = bif decide (i < a_1.x.b.length) then gD a_1.x.b i else Pn a_1) /\ Iw a_3 a /\ a_3.k < a_1.k else ∃ (a_3 : One), (a.m = a.m /\ (mB a.s).a = a_1.x.a /\ AAK a a_1 /\ ACI a
 a_1 /\ zV a a_1 /\ A2 a a_1 /\ AJ /\ AM /\ AJ /\ AM /\ (mB a.s).b.length = a_1.x.b.length /\ (0 : Nat) + a_1.x.b.length <= a_1.x.b.length /\ (∀ (j : Nat), B7 j a -> gD (mB a.s).b j = gD
 a_1.x.b (Ri j)) /\ Ls) /\ RA a) /\ ∀ (a_1 : One), RA a -> ((∃ (a_3 : KL), (a.m = a.m /\ CZ a /\ (↑a_3.k : Int) = (0 : Int) /\ a_3.x.s.bs.length = (mB a.s).s.bs.length /\ (∀ (i : Nat), Y2
 i a_3 -> gD a_3.x.s.bs i = gD (mB a.s).s.bs i) /\ a_3.x.s.used = (mB a.s).s.used /\ a_3.x.s.mix = (mB a.s).s.mix /\ AJ /\ AM /\ AJ /\ AM /\ DN a /\ DO a /\ Ls) /\ P6 a a_3) /\ (∀
 (a_3 : KL), P6 a a_3 -> bif W8 a_3 a then Y3 a_3 /\ F9 a_3 /\ ((True /\ (Ov -> (0 : Nat) = (4 : Nat))) /\ zB /\ Qb /\ Qm /\ (32 : Nat) <= (140737488355328 : Nat)) /\ ∃ (a_5 :
 KL), (a.m = a.m /\ CZ a /\ AAJ a_5 a_3 /\ E6 a_5 a_3 /\ Q0 a_5 a_3 /\ N1 a_5 a_3 /\ ACW a_5 a_3 /\ AJ /\ AM /\ AJ /\ AM /\ DN a /\ DO a /\ AJ /\
 M7 a_5 /\ M7 a_5 /\ ∀ (i : Nat), i < a_5.x.l.length -> (gD a_5.x.l i).a0 = Hf a_3 /\ (gD a_5.x.l i).a1 = Dx a_3 /\ (gD a_5.x.l i).b0 = dA a_3 /\ (gD a_5.x.l i).b1 = gQ a_3) /\
 WJ a a_5 /\ XA a a_5 < (mB a.s).b.length + (3 : Nat) else ∃ (a_5 : One), (a.m = a.m /\ CZ a /\ Ym a a_3 /\ dJ a a_3 /\ lS a a_3 /\ kK a a_3 /\ AJ /\ AM /\ AJ
 /\ AM /\ DN a /\ DO a /\ Wy a /\ Wy a) /\ JR a) /\ ∀ (a_3 : KL), WJ a a_3 -> bif W8 a_3 a then Y3 a_3 /\ F9 a_3 /\ ((a_3.x.l.length = a_3.x.l.length /\ ((0 :
 Nat) < a_3.x.l.length -> K3)) /\ zB /\ QX /\ Fc a_3 <= (9223372036854775807 : Nat) /\ Fc a_3 * (32 : Nat) <= (140737488355328 : Nat)) /\ ∃ (a_5 : KL), (a.m = a.m /\ CZ a /\ AAJ a_5
 a_3 /\ E6 a_5 a_3 /\ Q0 a_5 a_3 /\ N1 a_5 a_3 /\ ACW a_5 a_3 /\ AJ /\ AM /\ AJ /\ AM /\ DN a /\ DO a /\ AJ /\ hJ a_5 a_3 /\ hJ a_5 a_3 /\ ∀ (i :
 Nat), i < a_5.x.l.length -> ((gD a_5.x.l i).a0 = bif TZ i a_3 then (gD a_3.x.l i).a0 else Hf a_3) /\ ((gD a_5.x.l i).a1 = bif TZ i a_3 then (gD a_3.x.l i).a1 else Dx a_3) /\ ((gD a_5.x.l
 i).b0 = bif TZ i a_3 then (gD a_3.x.l i).b0 else dA a_3) /\ (gD a_5.x.l i).b1 = bif TZ i a_3 then (gD a_3.x.l i).b1 else gQ a_3) /\ WJ a a_5 /\ XA a a_5 < XA a a_3 else ∃
 (a_5 : One), (a.m = a.m /\ CZ a /\ Ym a a_3 /\ dJ a a_3 /\ lS a a_3 /\ kK a a_3 /\ AJ /\ AM /\ AJ /\ AM /\ DN a /\ DO a /\ (mL a.s).l.length =
 a_3.x.l.length /\ (0 : Nat) + a_3.x.l.length <= a_3.x.l.length /\ ∀ (j : Nat), Yt j a -> (gD (mL a.s).l j).a0 = (UM a_3 j).a0 /\ (gD (mL a.s).l j).a1 = (UM a_3 j).a1 /\ (gD (mL a.s).l j).b0 =
 (UM a_3 j).b0 /\ (gD (mL a.s).l j).b1 = (UM a_3 j).b1) /\ JR a) /\ ∀ (a_3 : One), JR a -> (Uw /\ a.m = a.m /\ Zx a = (mL a.s).s.bs.length /\ (∀ (i : Nat), i < Zx a -> gD
 (Dr a) i = gD (mL a.s).s.bs i) /\ (mL a.s).s.used = (mL a.s).s.used /\ (mL a.s).s.mix = (mL a.s).s.mix /\ ((mL a.s).s.used - (0 : Int)).NonNeg) /\ (∃ (a_5 : KG), (CZ a /\ AJ /\ AM /\ (↑a_5.k : Int) =
 JS (cL a) (1 : Int) a.m /\ a_5.x.s.bs.length = (Yo a).length /\ (∀ (i : Nat), RM i a_5 -> gD a_5.x.s.bs i = gD (Yo a) i) /\ a_5.x.s.used = (Cy a).used /\ a_5.x.s.mix = (Cy
 a).mix /\ Bb a) /\ Cs a a_5) /\ (∀ (a_5 : KG), Cs a a_5 -> bif kY a_5 then (lA a a_5 /\ (∃ (a_7 : KP), (CZ a /\ AJ /\ AM /\ kV a_7 a_5 /\ Yr a_7 /\
 Yf a_7 a_5 a /\ gH a_7 a_5 a /\ mI a_7 a_5 a /\ fA a_7 a_5 a /\ AJ /\ AM /\ AJ /\ AM /\ DN a /\ DO a /\ FL a /\ FP a /\ Xd a_7 a_5 a /\
 nI) /\ Fu a a_7 a_5) /\ ∀ (a_7 : KP), Fu a a_7 a_5 -> jL a_7 a /\ bif nD a_7 a then ∃ (a_9 : KP), (CZ a /\ AJ /\ AM /\ aI a_9 a_7 /\ cP a_9 a_7 /\
 iR a_9 a_7 /\ mV a_9 a_7 /\ hX a_9 a_7 /\ gM a_9 a_7 /\ AJ /\ AM /\ AJ /\ AM /\ DN a /\ DO a /\ FL a /\ FP a /\ a_9.t = a_7.t /\ nI) /\
 Fu a a_9 a_5 /\ Ye a a_9 a_7 else eR a_7 a /\ bif aJ a a_7 then ∃ (a_9 : KG), (CZ a /\ AJ /\ AM /\ SV a_9 a_7 /\ nT a_9 a_7 /\ lF a_9 a_7 /\ Xg
 a_9 a_7 /\ fB a_9 a_7 /\ Bb a) /\ mA a_9 a_5 a else gW a a_7 /\ Xn a_7 /\ (Zi /\ aD /\ Qb /\ eI) /\ ∃ (a_9 : KG), (CZ a /\ AJ /\ jS a_9 /\
 SV a_9 a_7 /\ aC a_9 a_7 /\ kT a_9 a_7 /\ kO a_9 a_7 /\ gL a_9 a_7 /\ AJ /\ AM /\ AJ /\ AM /\ DN a /\ DO a /\ FL a /\ FP a /\ jS
 a_9 /\ ∀ (i : Nat), i < a_9.x.l.length -> (gD a_9.x.l i).st = a_7.t /\ (gD a_9.x.l i).lo = Wl a a_7 /\ (gD a_9.x.l i).hi = jW a a_7) /\ SR a_9 a_5 a) /\ cW a_5 a else (Zi /\ bF /\
 QX /\ eI) /\ (Qf a).length = (1 : Nat) /\ (∀ (i : Nat), i < (Qf a).length -> (gD (Qf a) i).st = (1 : Int) /\ (gD (Qf a) i).lo = (1 : Int) /\ (gD (Qf a) i).hi = (1 : Int)) /\ Wa a a_5) /\ ∀ (a_5 : KG),
 lJ a a_5 -> bif kY a_5 then (lA a a_5 /\ (∃ (a_7 : KP), (CZ a /\ AJ /\ Xs a_7 a_5 /\ kV a_7 a_5 /\ Yr a_7 /\ Yf a_7 a_5 a /\ gH a_7 a_5 a /\ mI
 a_7 a_5 a /\ fA a_7 a_5 a /\ AJ /\ AM /\ AJ /\ AM /\ DN a /\ DO a /\ FL a /\ FP a /\ Xd a_7 a_5 a /\ JO /\ JO /\ Xs a_7 a_5 /\ ∀ (i : Nat),
 i < a_7.x.l.length -> (gD a_7.x.l i).st = (gD a_5.x.l i).st /\ (gD a_7.x.l i).lo = (gD a_5.x.l i).lo /\ (gD a_7.x.l i).hi = (gD a_5.x.l i).hi) /\ Gr a a_7 a_5) /\ ∀ (a_7 : KP), Gr a a_7 a_5 -> jL a_7 a
 /\ bif nD a_7 a then ∃ (a_9 : KP), (CZ a /\ AJ /\ aX a_9 a_7 /\ aI a_9 a_7 /\ cP a_9 a_7 /\ iR a_9 a_7 /\ mV a_9 a_7 /\ hX a_9 a_7 /\ gM a_9 a_7 /\
 AJ /\ AM /\ AJ /\ AM /\ DN a /\ DO a /\ FL a /\ FP a /\ a_9.t = a_7.t /\ JO /\ JO /\ aX a_9 a_7 /\ ∀ (i : Nat), i < a_9.x.l.length -> (gD a_9.x.l i).st =
 (gD a_7.x.l i).st /\ (gD a_9.x.l i).lo = (gD a_7.x.l i).lo /\ (gD a_9.x.l i).hi = (gD a_7.x.l i).hi) /\ Gr a a_9 a_5 /\ Ye a a_9 a_7 else eR a_7 a /\ bif aJ a a_7 then ∃ (a_9 : KG), (CZ
 a /\ AJ /\ jE a_9 a_7 /\ SV a_9 a_7 /\ nT a_9 a_7 /\ lF a_9 a_7 /\ Xg a_9 a_7 /\ fB a_9 a_7 /\ AJ /\ AM /\ AJ /\ AM /\ DN a /\ DO a /\
 FL a /\ FP a /\ jE a_9 a_7 /\ ∀ (i : Nat), i < a_9.x.l.length -> (gD a_9.x.l i).st = (gD a_7.x.l i).st /\ (gD a_9.x.l i).lo = (gD a_7.x.l i).lo /\ (gD a_9.x.l i).hi = (gD a_7.x.l i).hi) /\ SR a_9
 a_5 a else gW a a_7 /\ Xn a_7 /\ ((a_7.x.l.length = a_7.x.l.length /\ (fF a_7 -> Cj)) /\ aD /\ QX /\ Fg a_7 <= (9223372036854775807 : Nat) /\ Fg a_7 * (24 : Nat) <=
 (140737488355328 : Nat)) /\ ∃ (a_9 : KG), (CZ a /\ AJ /\ dT a_9 a_7 /\ SV a_9 a_7 /\ aC a_9 a_7 /\ kT a_9 a_7 /\ kO a_9 a_7 /\ gL a_9 a_7 /\ AJ /\ AM /\
 AJ /\ AM /\ DN a /\ DO a /\ FL a /\ FP a /\ dT a_9 a_7 /\ ∀ (i : Nat), i < a_9.x.l.length -> ((gD a_9.x.l i).st = bif Cq i a_7 then (gD a_7.x.l i).st else a_7.t) /\ ((gD
 a_9.x.l i).lo = bif Cq i a_7 then (gD a_7.x.l i).lo else Wl a a_7) /\ (gD a_9.x.l i).hi = bif Cq i a_7 then (gD a_7.x.l i).hi else jW a a_7) /\ SR a_9 a_5 a) /\ cW a_5 a else
 bif (↑a_5.x.l.length : Int) == (0 : Int) then ((a_5.x.l.length = a_5.x.l.length /\ (Fe a_5 -> Cj)) /\ bF /\ QX /\ Cf a_5 <= (9223372036854775807 : Nat) /\ Cf a_5 * (24 : Nat) <=
 (140737488355328 : Nat)) /\ (Qf a).length = Cf a_5 /\ (∀ (i : Nat), i < (Qf a).length -> ((gD (Qf a) i).st = bif Bq i a_5 then (gD a_5.x.l i).st else (1 : Int)) /\ ((gD (Qf a) i).lo = bif Bq i a_5
 then (gD a_5.x.l i).lo else (1 : Int)) /\ (gD (Qf a) i).hi = bif Bq i a_5 then (gD a_5.x.l i).hi else (1 : Int)) /\ Wa a a_5 else (Qf a).length = a_5.x.l.length /\ (0 : Nat) + a_5.x.l.length <=
 a_5.x.l.length /\ (∀ (j : Nat), j < (Qf a).length -> (gD (Qf a) j).st = (Ga a_5 j).st /\ (gD (Qf a) j).lo = (Ga a_5 j).lo /\ (gD (Qf a) j).hi = (Ga a_5 j).hi) /\ (Hr a).b.length = (mB
 a.s).b.length /\ (∀ (i : Nat), i < (Hr a).b.length -> gD (Hr a).b i = gD (mB a.s).b i) /\ (Hr a).l.length = (mL a.s).l.length /\ (∀ (i : Nat), i < (Hr a).l.length -> (gD (Hr a).l i).a0 = (gD (mL a.s).l i).a0 /\ (gD (Hr
 a).l i).a1 = (gD (mL a.s).l i).a1 /\ (gD (Hr a).l i).b0 = (gD (mL a.s).l i).b0 /\ (gD (Hr a).l i).b1 = (gD (mL a.s).l i).b1) /\ fO a a_5) := by kernel_rfl
theorem CHA (s : Stm) : Stm.mk s.bs s.used s.mix = s := rfl
theorem KQ {K : Int} {s : Stm} (h : StmB K s) (hK : K <= 1000000000000000) (lo hi : Int) : StmB (K + 1) (US s lo hi) := h.next hK _
theorem BOH {a : MkI} {y : KB} (h : Hq a y) (hk : 0 < y.k) : Hq a ⟨y.k - 1, stpB y.x⟩ := by
 obtain ⟨h1, h2, h3, h4, h5, h6⟩ := h
 have hw := Ry h2 (by omega) (lo := 5) (hi := 60) (by omega) (by omega) (by omega)
 have ha : wr (y.x.a + JS y.x.s 5 60) = y.x.a + JS y.x.s 5 60 := EO (by omega) (by omega)
 refine ⟨by show y.k - 1 <= 2; omega, ?_, ?_, ?_, ?_, ?_⟩
 ·have := KQ h2 (by omega) 5 60
  exact this.mono (by show _ <= 3 - ((y.k - 1 : Nat) : Int); omega)
 ·obtain ⟨k, hk2⟩ : ∃ k, y.k = k + 1 := ⟨y.k - 1, by omega⟩
  rw [hk2] at h3 ⊢; exact h3
 ·show (((y.x.b ++ [_]).length : Nat) : Int) + ((y.k - 1 : Nat) : Int) <= 2
  rw [List.length_append, List.length_singleton]; omega
 ·show 0 <= wr _; rw [ha]; omega
 ·show wr _ <= 60 * (2 - ((y.k - 1 : Nat) : Int)); rw [ha]; omega
theorem CAW {a : MkI} {y : KB} (h : Hq a y) (hk : ¬0 < y.k) : y.x = mB a.s /\ Hq a ⟨0, mB a.s⟩ := by
 obtain ⟨k, x⟩ := y
 have hk : k = 0 := by have : ¬0 < k := hk; omega
 subst hk
 have e : x = mB a.s := h.2.2.1
 exact ⟨e, e ▸ h⟩
theorem CEP {K : Int} {s : Stm} (h : StmB K s) (hK : K <= 100000) : okMk (mkLn s) /\ StmB (K + 4) (lnS4 s) := by
 have h1 := h.next (by omega) 40
 have h2 := h1.next (by omega) 60
 have h3 := KQ h2 (by omega) 1 60
 have h4 := h3.next (by omega) 200
 have v1 := GV h (by omega) 40
 have v2 := GV h1 (by omega) 60
 have v3 := Ry h2 (by omega) (lo := 1) (hi := 60) (by omega) (by omega) (by omega)
 have v4 := GV h3 (by omega) 200
 have a1 := v1.2 (by omega)
 have a2 := v2.2 (by omega)
 have a4 := v4.2 (by omega)
 have e1 : wr (AN s 40 + JS (lnS2 s) 1 60) = AN s 40 + JS (lnS2 s) 1 60 := by unfold lnS2 lnS1; exact EO (by omega) (by omega)
 have e2 : wr (AN (lnS1 s) 60 + AN (lnS3 s) 200) = AN (lnS1 s) 60 + AN (lnS3 s) 200 := by unfold lnS3 lnS2 lnS1; exact EO (by omega) (by omega)
 refine ⟨?_, h4.mono (by omega)⟩
 unfold okMk mkLn
 simp only [e1, e2]
 unfold lnS3 lnS2 lnS1
 omega
theorem BMM {a : MkI} {y : KL} (h : V4 a y) (hk : y.k <= (mB a.s).b.length) : V4 a ⟨y.k + 1, stpL y.x⟩ := by
 obtain ⟨h0, h1, h2, h3, h4, h5⟩ := h
 have hb : ((mB a.s).b.length : Int) <= 2 := by have : (((mB a.s).b.length : Nat) : Int) + ((0 : Nat) : Int) <= 2 := h0.2.2.2.1; omega
 obtain ⟨o1, o2⟩ := CEP h2 (by omega)
 refine ⟨h0, by show y.k + 1 <= _; omega, o2.mono (by show _ <= 3 + 4 * ((y.k + 1 : Nat) : Int); omega), ?_, ?_, ?_⟩
 ·obtain ⟨n, hn⟩ : ∃ n, (mB a.s).b.length + 1 - y.k = n + 1 := ⟨(mB a.s).b.length - y.k, by omega⟩
  rw [hn] at h3
  show mkL ((mB a.s).b.length + 1 - (y.k + 1)) (stpL y.x) = _
  rw [show (mB a.s).b.length + 1 - (y.k + 1) = n by omega]; exact h3
 ·show (y.x.l ++ [_]).length = y.k + 1; rw [List.length_append, h4]; rfl
 ·intro z hz
  rcases List.mem_append.1 hz with hz | hz
  ·exact h5 z hz
  ·rw [List.mem_singleton.1 hz]; exact o1
theorem CIJ {a : MkI} {y : KL} (h : V4 a y) (hk : ¬y.k <= (mB a.s).b.length) : y.x = mL a.s /\ fin9 a := by
 obtain ⟨k, x⟩ := y
 have hk1 : k <= (mB a.s).b.length + 1 := h.2.1
 have hk : k = (mB a.s).b.length + 1 := by have : ¬k <= (mB a.s).b.length := hk; omega
 subst hk
 have e : x = mL a.s := by
  have := h.2.2.2.1
  rw [show (mB a.s).b.length + 1 - ((mB a.s).b.length + 1) = 0 by omega] at this; exact this
 exact ⟨e, show V4 a ⟨_, mL a.s⟩ from e ▸ h⟩
theorem BGE {b : List Int} {t : Int} : ∀ (n k : Nat), k <= ptK b t n k /\ ptK b t n k <= k + n
 | 0, k => ⟨Nat.le_refl _, Nat.le_refl _⟩
 | n + 1, k => by
  unfold ptK
  cases decide (gD b k <= t)
  ·exact ⟨Nat.le_refl _, by show k <= _; omega⟩
  ·have := BGE (b := b) (t := t) n (k + 1); show k <= ptK b t n (k + 1) /\ ptK b t n (k + 1) <= _; omega
theorem BYZ {b : List Int} {t : Int} {p : Nat} (h : (bif decide (p < b.length) then decide (gD b p <= t) else false) = true) : p < b.length /\ ptK b t (b.length - p) p = ptK b t (b.length - (p + 1)) (p + 1) := by
 cases hd : decide (p < b.length) with
 | false => rw [hd] at h; cases h
 | true =>
  rw [hd] at h
  have hp := of_decide_eq_true hd
  refine ⟨hp, ?_⟩
  obtain ⟨n, hn⟩ : ∃ n, b.length - p = n + 1 := ⟨b.length - p - 1, by omega⟩
  rw [hn, show b.length - (p + 1) = n by omega]
  conv => lhs; unfold ptK
  rw [show decide (gD b p <= t) = true from h]; rfl
theorem CHF {b : List Int} {t : Int} {p : Nat} (h : (bif decide (p < b.length) then decide (gD b p <= t) else false) = false) (hp : p <= b.length) : ptK b t (b.length - p) p = p := by
 cases hd : decide (p < b.length) with
 | false => rw [show b.length - p = 0 by have := of_decide_eq_false hd; omega]; rfl
 | true =>
  rw [hd] at h
  have hp := of_decide_eq_true hd
  obtain ⟨n, hn⟩ : ∃ n, b.length - p = n + 1 := ⟨b.length - p - 1, by omega⟩
  rw [hn]; unfold ptK; rw [show decide (gD b p <= t) = false from h]; rfl
theorem BAV {a : MkI} (h : fin9 a) : ((mB a.s).b.length : Int) <= 2 /\ (0 <= (mB a.s).a /\ (mB a.s).a <= 120) /\ (mL a.s).l.length = (mB a.s).b.length + 1 /\ (∀ z ∈ (mL a.s).l, okMk z) /\ StmB 15 (mL a.s).s := by
 obtain ⟨h0, h1, h2, h3, h4, h5⟩ := h
 have hb : (((mB a.s).b.length : Nat) : Int) + ((0 : Nat) : Int) <= 2 := h0.2.2.2.1
 have h6 : 0 <= (mB a.s).a := h0.2.2.2.2.1
 have h7 : (mB a.s).a <= 60 * (2 - ((0 : Nat) : Int)) := h0.2.2.2.2.2
 exact ⟨by omega, ⟨h6, by omega⟩, h4, h5, h2.mono (by show 3 + 4 * (((mB a.s).b.length + 1 : Nat) : Int) <= 15; omega)⟩
theorem BPC {a : MkI} (h : fin9 a) : hiG a = (mB a.s).a + 80 := by
 obtain ⟨_, h2, _⟩ := BAV h
 exact EO (by omega) (by omega)
theorem G_in {a : MkI} {k : Nat} {x : MG} (h : Vh a k x) (hm : a.m <= 100) (hk : 0 < k) : Vr a k ⟨k, ⟨BF x.s (hiG a), x.l⟩, AN x.s (hiG a), 0⟩ := by
 obtain ⟨h0, h1, h2, h3, h4⟩ := h
 have hv := GV h2 (by omega) (hiG a)
 obtain ⟨_, h6, _⟩ := BAV h0
 rw [BPC h0] at hv
 have := hv.2 (by omega)
 refine ⟨h0, rfl, hk, h1, (h2.next (by omega) _).mono (by show _ <= 17 + 3 * (a.m - (k : Int)); omega), ?_, h4, ?_, Nat.zero_le _, rfl⟩
 ·obtain ⟨n, hn⟩ : ∃ n, k = n + 1 := ⟨k - 1, by omega⟩
  subst hn; exact h3
 ·rw [BPC h0]; exact ⟨hv.1, by show AN x.s ((mB a.s).a + 80) <= 199; omega⟩
theorem ANS {x : Ln} {t : Int} (h : okMk x) (ht : 0 <= t /\ t <= 199) : Vp x = x.b0 - x.a0 /\ Hl x t = x.a1 * (x.b0 - x.a0) + (x.b1 - x.a1) * (t - x.a0) /\ wr (1000 * Vp x) = 1000 * Vp x /\ -100000 <= Hl x t /\ Hl x t <= 100000 := by
 obtain ⟨h1, h2, h3, h4⟩ := h
 have m1 : 0 <= x.a1 * (x.b0 - x.a0) := Int.mul_nonneg (by omega) (by omega)
 have m2 : x.a1 * (x.b0 - x.a0) <= 59 * 60 := Int.mul_le_mul (by omega) (by omega) (by omega) (by omega)
 have m3 : (x.b1 - x.a1) * (t - x.a0) <= 199 * 199 := Int.le_trans (Int.mul_le_mul_of_nonneg_left (show t - x.a0 <= 199 by omega) (by omega)) (Int.mul_le_mul_of_nonneg_right (by omega) (by omega))
 have m4 : -(199 * 39) <= (x.b1 - x.a1) * (t - x.a0) := by
  have e1 := Int.mul_le_mul_of_nonneg_left (show -39 <= t - x.a0 by omega) (show 0 <= x.b1 - x.a1 by omega)
  have e2 := Int.mul_le_mul_of_nonneg_right (show x.b1 - x.a1 <= 199 by omega) (show (0 : Int) <= 39 by omega)
  rw [Int.mul_neg] at e1
  omega
 have w1 : wr (x.b0 - x.a0) = x.b0 - x.a0 := EO (by omega) (by omega)
 have w2 : wr (x.a1 * (x.b0 - x.a0)) = x.a1 * (x.b0 - x.a0) := EO (by omega) (by omega)
 have w3 : wr (x.b1 - x.a1) = x.b1 - x.a1 := EO (by omega) (by omega)
 have w4 : wr (t - x.a0) = t - x.a0 := EO (by omega) (by omega)
 have w5 : wr ((x.b1 - x.a1) * (t - x.a0)) = (x.b1 - x.a1) * (t - x.a0) := EO (by omega) (by omega)
 have w6 : wr (x.a1 * (x.b0 - x.a0) + (x.b1 - x.a1) * (t - x.a0)) = x.a1 * (x.b0 - x.a0) + (x.b1 - x.a1) * (t - x.a0) := EO (by omega) (by omega)
 have e1 : Vp x = x.b0 - x.a0 := w1
 have e2 : Hl x t = x.a1 * (x.b0 - x.a0) + (x.b1 - x.a1) * (t - x.a0) := by unfold Hl; rw [w1, w2, w3, w4, w5, w6]
 refine ⟨e1, e2, ?_, by omega, by omega⟩
 rw [e1]; exact EO (by omega) (by omega)
theorem CHP {a : MkI} {m : Nat} {y : KP} (h : Vr a m y) (hm : a.m <= 100) : Ng a m ⟨y.k, UU (Nv a y.t) y.x.s y.t y.x.l⟩ := by
 obtain ⟨h0, h1, h2, h3, h4, h5, h6, h7, h8, h9⟩ := h
 have hs := h4.next (by omega) 6
 have hs2 := KQ hs (by omega) 1 6
 refine ⟨h1, h2, h0, by show ((y.k - 1 : Nat) : Int) <= _; omega, ?_, h5, ?_⟩
 ·show StmB (16 + 3 * (a.m - ((y.k - 1 : Nat) : Int))) (UU _ _ _ _).s
  unfold UU
  cases (bif decide (Hl (Nv a y.t) y.t < 0) then true else decide (Hl (Nv a y.t) y.t > wr (1000 * Vp (Nv a y.t))))
  ·exact hs2.mono (by omega)
  ·exact h4.mono (by omega)
 ·show (((UU _ _ _ _).l.length : Nat) : Int) + ((y.k - 1 : Nat) : Int) <= a.m
  unfold UU
  cases (bif decide (Hl (Nv a y.t) y.t < 0) then true else decide (Hl (Nv a y.t) y.t > wr (1000 * Vp (Nv a y.t))))
  ·show (((y.x.l ++ [_]).length : Nat) : Int) + _ <= _
   rw [List.length_append, List.length_singleton]; omega
  ·show ((y.x.l.length : Nat) : Int) + _ <= _; omega
theorem G_up {a : MkI} {m : Nat} {y : KP} (h : Vr a m y) (hp : (bif decide (y.p < (mB a.s).b.length) then decide (gD (mB a.s).b y.p <= y.t) else false) = true) : Vr a m ⟨y.k, y.x, y.t, y.p + 1⟩ := by
 obtain ⟨h0, h1, h2, h3, h4, h5, h6, h7, h8, h9⟩ := h
 obtain ⟨p1, p2⟩ := BYZ hp
 exact ⟨h0, h1, h2, h3, h4, h5, h6, h7, p1, h9.trans p2⟩
theorem G_at {a : MkI} {m : Nat} {y : KP} (h : Vr a m y) (hp : (bif decide (y.p < (mB a.s).b.length) then decide (gD (mB a.s).b y.p <= y.t) else false) = false) : Nv a y.t = gD (mL a.s).l y.p /\ y.p < (mL a.s).l.length := by
 obtain ⟨h0, h1, h2, h3, h4, h5, h6, h7, h8, h9⟩ := h
 obtain ⟨_, _, g3, _⟩ := BAV h0
 exact ⟨by unfold Nv; rw [h9.trans (CHF hp h8)], by omega⟩
theorem CBK {a : MkI} {m : Nat} {y : KP} (h : Vr a m y) : okMk (Nv a y.t) := by
 obtain ⟨h0, h1, h2, h3, h4, h5, h6, h7, h8, h9⟩ := h
 obtain ⟨_, _, g3, g4, _⟩ := BAV h0
 have := BGE (b := (mB a.s).b) (t := y.t) (mB a.s).b.length 0
 unfold Nv
 exact g4 _ (BZ (by rw [g3]; unfold ptM; omega))
theorem BZV (a : MkI) (h : M0 a) : CCZ a := by
 rw [CFS]; delta yB AOO AQC sR ATL AMQ AJ AM Ls Iw U7 ADH Qh Tc ABF V3 Ov Te QU zC V5 Qb Qm J0 Pn L7 J4 Uf AAY AEH zZ Y0 AAP A3 AAK ACI zV A2 U9 RA QX Uz AAZ B7 Ri CZ Y2 DN DO IG XA zN C8 E5 WJ P6 W8 Sd Z8 ADO Sk K0 D4 ABB Qo O9 XO Sj Y3 Uw AAA Rv ACT Z0 D0 Sm I7 ZX Sc X1 Qa ACJ L5 yQ Pv E2 ZI Rb F9 K3 zB AAJ U4 Rg ACX E6 Q0 N1 ACW M7 Hf Dx dA gQ Ym dJ lS kK Wy JR Fc hJ TZ Yt UM Dr Zx cL Cy Yo RM FL FP Bb eJ Cs kY UB Dh gY lA kV Yr kU Dk oG Yf Yn gH mI fA Xd JO nI Cr jI Fu nV Zr jR jL nD aI cP iR mV hX gM Ye eR Ze lK SY Ba aJ SV nT lF Xg fB RO gX mA gW lY Bf Xy aT Bi dR jX iM Fq Yh SG Fh Xn Zi Cj jJ aD eI jS Wr Eg fG aC kT kO gL cN Wl jW Fe SR Xe Yi Wj hC iV kN lJ jU cW bF gB fO Wa Xs fF Gr aX jE Fg dT Cq Cf Bq Ga; simp only [CC, eq_self, implies_true, forall_const, CHA, Int.ofNat_lt]
 obtain ⟨hs, hm1, hm2⟩ := h
 have hn := GV hs (by omega) 3
 have hn2 := hn.2 (by omega)
 have hk0 : ((AN a.s 3).toNat : Int) = AN a.s 3 := Int.toNat_of_nonneg hn.1
 have i0 : Hq a ⟨(AN a.s 3).toNat, ⟨BF a.s 3, 0, []⟩⟩ := ⟨by show (AN a.s 3).toNat <= 2; omega, (hs.next (by omega) 3).mono (by show _ <= 3 - (((AN a.s 3).toNat : Nat) : Int); omega), rfl, by show ((0 : Nat) : Int) + ((AN a.s 3).toNat : Nat) <= 2; omega, Int.le_refl _, by show 0 <= 60 * (2 - (((AN a.s 3).toNat : Nat) : Int)); omega⟩
 have w1 : ∀ {y : KB}, Hq a y -> 0 < y.k -> ((y.k - 1 : Nat) : Int) = IntKind.i64.wrap ((y.k : Int) - 1) := λ {y} hy hk => by
  have := hy.1
  rw [EO (by omega) (by omega)]; omega
 refine ⟨⟨⟨rfl, hs.used.1⟩, ⟨⟨_, ⟨BF a.s 3, 0, []⟩⟩, ⟨rfl, hk0, rfl, λ _ _ => rfl, rfl, rfl⟩, i0, rfl⟩, λ y ⟨hy, hyb⟩ => ⟨λ hk => ?_, λ hk => ?_⟩, λ y hy => ⟨λ hk => ?_, λ hk => ?_⟩⟩, λ hB => ⟨⟨⟨⟨0, ⟨(mB a.s).s, []⟩⟩, ⟨rfl, rfl, λ _ _ => rfl, rfl, rfl⟩, ?_, rfl⟩, λ y ⟨hy, hy0⟩ => ⟨λ hk => ?_, λ hk => ?_⟩, λ y hy => ⟨λ hk => ?_, λ hk => ?_⟩⟩, λ hL => ?_⟩⟩
 ·have hk : 0 < y.k := by omega
  have hy2 : Hq a y := hy
  have ey : stpB y.x = ⟨US y.x.s 5 60, wr (y.x.a + JS y.x.s 5 60), [wr (y.x.a + JS y.x.s 5 60)]⟩ := by unfold stpB; rw [hyb]; rfl
  refine ⟨⟨rfl, rfl, hy2.2.1.used.1⟩, ⟨by omega, by omega, by omega, by omega, by omega⟩, ⟨y.k - 1, stpB y.x⟩, ?_, BOH hy2 hk, by show y.k - 1 < y.k + 1; omega⟩
  rw [ey]
  exact ⟨rfl, w1 hy2 hk, rfl, λ _ _ => rfl, rfl, rfl, rfl, rfl, λ i hi => by rw [show i = 0 by have h1 : i < 1 := hi; omega]; rfl⟩
 ·obtain ⟨e1, e2⟩ := CAW (show Hq a y from hy) (by omega)
  exact ⟨default, by rw [<- e1, hyb]; exact ⟨rfl, rfl, λ _ _ => rfl, rfl, rfl, rfl⟩, e2⟩
 ·have hk : 0 < y.k := by omega
  have hy2 : Hq a y := hy
  have := hy2.2.2.2.1
  refine ⟨⟨rfl, rfl, hy2.2.1.used.1⟩, ⟨by omega, λ h => (by cases h), by omega, by omega⟩, ⟨y.k - 1, stpB y.x⟩, ⟨rfl, w1 hy2 hk, rfl, λ _ _ => rfl, rfl, rfl, ?_, ?_, CHY _ _⟩, BOH hy2 hk, by show y.k - 1 < y.k; omega⟩ <;> (show (y.x.b ++ [_]).length = _; simp)
 ·obtain ⟨e1, e2⟩ := CAW (show Hq a y from hy) (by omega)
  exact ⟨default, by rw [<- e1]; exact ⟨rfl, rfl, λ _ _ => rfl, rfl, rfl, rfl, Nat.le_refl _, λ _ _ => rfl⟩, e2⟩
 ·exact ⟨hB, Nat.zero_le _, (show StmB (3 - ((0 : Nat) : Int)) (mB a.s).s from hB.2.1).mono (by show _ <= 3 + 4 * ((0 : Nat) : Int); omega), rfl, rfl, λ z hz => by cases hz⟩
 ·have hy2 : V4 a y := hy
  have hk : y.k <= (mB a.s).b.length := by omega
  have s0 := hy2.2.2.1
  have s1 := s0.next (by omega) 40
  have s2 := s1.next (by omega) 60
  have s3 := KQ s2 (by omega) 1 60
  have hl : y.x.l = [] := List.eq_nil_of_length_eq_zero (by rw [hy2.2.2.2.2.1]; exact hy0)
  have ey : stpL y.x = ⟨lnS4 y.x.s, [mkLn y.x.s]⟩ := by unfold stpL; rw [hl]; rfl
  refine ⟨⟨rfl, s0.used.1, rfl, s1.used.1⟩, ⟨rfl, rfl, s2.used.1, rfl, s3.used.1⟩, ⟨by omega, by omega, by omega, by omega, by omega⟩, ⟨y.k + 1, stpL y.x⟩, ?_, BMM hy2 hk, by show (mB a.s).b.length + 1 - (y.k + 1) < _; omega⟩
  rw [ey]
  exact ⟨(CA (by omega)).symm, rfl, λ _ _ => rfl, rfl, rfl, rfl, rfl, oneL _⟩
 ·have hy0 : y.k = 0 := hy0
  omega
 ·have hy2 : V4 a y := hy
  have hk : y.k <= (mB a.s).b.length := by omega
  have hb : (((mB a.s).b.length : Nat) : Int) + ((0 : Nat) : Int) <= 2 := hB.2.2.2.1
  have s0 := hy2.2.2.1
  have s1 := s0.next (by omega) 40
  have s2 := s1.next (by omega) 60
  have s3 := KQ s2 (by omega) 1 60
  have hl := hy2.2.2.2.2.1
  refine ⟨⟨rfl, s0.used.1, rfl, s1.used.1⟩, ⟨rfl, rfl, s2.used.1, rfl, s3.used.1⟩, ⟨by omega, λ h => (by cases h), by omega, by omega⟩, ⟨y.k + 1, stpL y.x⟩, ⟨(CA (by omega)).symm, rfl, λ _ _ => rfl, rfl, rfl, ?_, ?_, BCD _ _⟩, BMM hy2 hk, by show (mB a.s).b.length + 1 - (y.k + 1) < _; omega⟩ <;> (show (y.x.l ++ [_]).length = _; simp)
 ·obtain ⟨e1, e2⟩ := CIJ (show V4 a y from hy) (by omega)
  exact ⟨default, by rw [<- e1]; exact ⟨rfl, λ _ _ => rfl, rfl, rfl, rfl, Nat.le_refl _, λ _ _ => ⟨rfl, rfl, rfl, rfl⟩⟩, e2⟩
 ·have hF : fin9 a := hL
  obtain ⟨g1, g2, g3, g4, g5⟩ := BAV hF
  have hw := Ry g5 (by omega) (lo := 1) (hi := a.m) (by omega) hm1 (by omega)
  have hwk : ((JS (mL a.s).s 1 a.m).toNat : Int) = JS (mL a.s).s 1 a.m := Int.toNat_of_nonneg (by omega)
  have i16 : Vh a (JS (mL a.s).s 1 a.m).toNat (mG0 a) := ⟨hF, by omega, (KQ g5 (by omega) 1 a.m).mono (by omega), rfl, by show ((0 : Nat) : Int) + _ <= _; omega⟩
  have hwr : IntKind.i64.wrap ((mB a.s).a + 80) = hiG a := rfl
  simp only [hwr]
  have nx : ∀ {m : Nat} {z : KG}, Ng a m z -> Vh a (z.k - 1) z.x /\ z.k - 1 < m /\ ((z.k - 1 : Nat) : Int) = IntKind.i64.wrap ((z.k : Int) - 1) := λ {m} {z} h => by
   obtain ⟨h1, h2, h3⟩ := h
   have h4 : ((z.k - 1 : Nat) : Int) <= a.m := h3.2.1
   exact ⟨h3, by omega, by rw [EO (by omega) (by omega)]; omega⟩
  have em : ∀ {y : MG}, y = mG a -> y.l = [] -> Qf a = [⟨1, 1, 1⟩] /\ Hr a = ⟨[], [⟨0, 0, 1, 1⟩]⟩ := λ {y} h h2 => by
   unfold Qf Hr; rw [<- h, h2]; exact ⟨rfl, rfl⟩
  have fl : ∀ {y : MG}, y = mG a -> 0 < y.l.length -> Qf a = y.l /\ Hr a = ⟨(mB a.s).b, (mL a.s).l⟩ := λ {y} h h2 => by
   unfold Qf Hr; rw [<- h, decide_eq_false (by omega)]; exact ⟨rfl, rfl⟩
  refine ⟨⟨rfl, g5.used.1⟩, ⟨⟨_, mG0 a⟩, ⟨hwk, rfl, λ _ _ => rfl, rfl, rfl⟩, i16, rfl⟩, λ y ⟨hy, hyl⟩ => ⟨λ hk => ⟨⟨(show Vh a y.k y.x from hy).2.2.1.used.1, ⟨⟨y.k, ⟨BF y.x.s (hiG a), y.x.l⟩, AN y.x.s (hiG a), 0⟩, ⟨rfl, rfl, rfl, λ _ _ => rfl, rfl, rfl, rfl⟩, G_in hy hm2 (by omega), hyl⟩, λ z ⟨hz, hzl⟩ => ⟨λ _ => ⟨by omega, by omega⟩, λ hp => ?_, λ hp => ?_⟩⟩, λ z ⟨hz, hzl⟩ => ?_, λ z ⟨hz, hzl⟩ => ?_⟩, λ hk => ?_⟩, λ y ⟨hy, hyl⟩ => ⟨λ hk => ?_, λ hk => ?_⟩⟩
  ·exact ⟨⟨z.k, z.x, z.t, z.p + 1⟩, ⟨rfl, (CA (by omega)).symm, rfl, λ _ _ => rfl, rfl, rfl, rfl⟩, ⟨G_up hz hp, hzl⟩, by have := (BYZ hp).1; show (mB a.s).b.length - (z.p + 1) < _; omega⟩
  ·obtain ⟨e, e2⟩ := G_at hz hp
   have ho := CHP hz hm2
   have okl := CBK hz
   have hI : Vr a _ z := hz
   have zs := hI.2.2.2.2.1
   have zs1 := zs.next (by omega) 6
   have zl : (z.x.l.length : Int) + z.k <= a.m := hI.2.2.2.2.2.2.1
   have bw := (ANS okl hI.2.2.2.2.2.2.2.1).1
   rw [<- e]
   refine ⟨⟨by omega, by omega⟩, λ hu => ?_, λ hu => ?_⟩
   ·have hu : (bif decide (Hl (Nv a z.t) z.t < 0) then true else decide (Hl (Nv a z.t) z.t > wr (1000 * Vp (Nv a z.t)))) = true := hu
    have es : UU (Nv a z.t) z.x.s z.t z.x.l = z.x := by unfold UU; rw [hu]; rfl
    rw [es] at ho
    exact ⟨⟨z.k, z.x⟩, ⟨rfl, rfl, λ _ _ => rfl, rfl, rfl⟩, ho, hzl⟩
   ·have hu : (bif decide (Hl (Nv a z.t) z.t < 0) then true else decide (Hl (Nv a z.t) z.t > wr (1000 * Vp (Nv a z.t)))) = false := hu
    have es : UU (Nv a z.t) z.x.s z.t z.x.l = ⟨US (BF z.x.s 6) 1 6, [Br (Nv a z.t) z.x.s z.t]⟩ := by unfold UU; rw [hu, show z.x.l = [] from hzl]; rfl
    rw [es] at ho
    refine ⟨λ h0 => ?_, ⟨rfl, zs.used.1, rfl, rfl, zs1.used.1⟩, ⟨by omega, by omega, by omega, by omega, by omega⟩, ⟨z.k, ⟨US (BF z.x.s 6) 1 6, [Br (Nv a z.t) z.x.s z.t]⟩⟩, ⟨rfl, rfl, rfl, λ _ _ => rfl, rfl, rfl, rfl, λ i hi => by rw [show i = 0 by have h1 : i < 1 := hi; omega]; exact ⟨rfl, rfl, rfl⟩⟩, ho, Nat.one_pos⟩
    have h0 : Vp (Nv a z.t) = 0 := h0
    have := okl.2.1; omega
  ·obtain ⟨n1, n2, n3⟩ := nx (show Ng a _ z from hz)
   exact ⟨⟨z.k - 1, z.x⟩, ⟨n3, rfl, λ _ _ => rfl, rfl, rfl⟩, ⟨n1, hzl⟩, n2⟩
  ·obtain ⟨n1, n2, n3⟩ := nx (show Ng a _ z from hz)
   exact ⟨⟨z.k - 1, z.x⟩, ⟨rfl, n3, rfl, λ _ _ => rfl, rfl, rfl, rfl, λ _ _ => ⟨rfl, rfl, rfl⟩⟩, ⟨n1, hzl⟩, n2⟩
  ·have hI : Vh a y.k y.x := hy
   have e0 : y.x = mG a := by
    have := hI.2.2.2.1
    rw [show y.k = 0 by omega] at this; exact this
   obtain ⟨m1, m2⟩ := em e0 hyl
   rw [m1, m2, <- e0]
   refine ⟨⟨by omega, λ h => (by cases h), by omega, by omega⟩, rfl, λ i hi => ?_, rfl, rfl, rfl, λ i hi => ?_, rfl, λ _ _ => rfl, rfl, rfl⟩
   ·rw [show i = 0 by have h1 : i < 1 := hi; omega]; exact ⟨rfl, rfl, rfl⟩
   ·rw [show i = 0 by have h1 : i < 1 := hi; omega]; exact ⟨rfl, rfl, rfl, rfl⟩
  ·have hI : Vh a y.k y.x := hy
   refine ⟨⟨hI.2.2.1.used.1, ⟨⟨y.k, ⟨BF y.x.s (hiG a), y.x.l⟩, AN y.x.s (hiG a), 0⟩, ⟨rfl, rfl, rfl, rfl, λ _ _ => rfl, rfl, rfl, rfl, rfl, λ _ _ => ⟨rfl, rfl, rfl⟩⟩, G_in hy hm2 (by omega), hyl⟩, λ z ⟨hz, hzl⟩ => ⟨λ _ => ⟨by omega, by omega⟩, λ hp => ?_, λ hp => ?_⟩⟩, λ z ⟨hz, hzl⟩ => ?_, λ z ⟨hz, hzl⟩ => ?_⟩
   ·exact ⟨⟨z.k, z.x, z.t, z.p + 1⟩, ⟨rfl, rfl, (CA (by omega)).symm, rfl, λ _ _ => rfl, rfl, rfl, rfl, rfl, λ _ _ => ⟨rfl, rfl, rfl⟩⟩, ⟨G_up hz hp, hzl⟩, by have := (BYZ hp).1; show (mB a.s).b.length - (z.p + 1) < _; omega⟩
   ·obtain ⟨e, e2⟩ := G_at hz hp
    have ho := CHP hz hm2
    have okl := CBK hz
    have hI : Vr a _ z := hz
    have zs := hI.2.2.2.2.1
    have zs1 := zs.next (by omega) 6
    have zl : (z.x.l.length : Int) + z.k <= a.m := hI.2.2.2.2.2.2.1
    have bw := (ANS okl hI.2.2.2.2.2.2.2.1).1
    rw [<- e]
    refine ⟨⟨by omega, by omega⟩, λ hu => ?_, λ hu => ?_⟩
    ·have hu : (bif decide (Hl (Nv a z.t) z.t < 0) then true else decide (Hl (Nv a z.t) z.t > wr (1000 * Vp (Nv a z.t)))) = true := hu
     have es : UU (Nv a z.t) z.x.s z.t z.x.l = z.x := by unfold UU; rw [hu]; rfl
     rw [es] at ho
     exact ⟨⟨z.k, z.x⟩, ⟨rfl, rfl, rfl, λ _ _ => rfl, rfl, rfl, rfl, λ _ _ => ⟨rfl, rfl, rfl⟩⟩, ho, hzl⟩
    ·have hu : (bif decide (Hl (Nv a z.t) z.t < 0) then true else decide (Hl (Nv a z.t) z.t > wr (1000 * Vp (Nv a z.t)))) = false := hu
     have es : UU (Nv a z.t) z.x.s z.t z.x.l = ⟨US (BF z.x.s 6) 1 6, z.x.l ++ [Br (Nv a z.t) z.x.s z.t]⟩ := by unfold UU; rw [hu]; rfl
     rw [es] at ho
     refine ⟨λ h0 => ?_, ⟨rfl, zs.used.1, rfl, rfl, zs1.used.1⟩, ⟨by omega, λ h => (by cases h), by omega, by omega⟩, ⟨z.k, ⟨US (BF z.x.s 6) 1 6, z.x.l ++ [Br (Nv a z.t) z.x.s z.t]⟩⟩, ⟨by simp, rfl, rfl, λ _ _ => rfl, rfl, rfl, by simp, BQM _ _⟩, ho, by show 0 < (z.x.l ++ [_]).length; simp⟩
     have h0 : Vp (Nv a z.t) = 0 := h0
     have := okl.2.1; omega
   ·obtain ⟨n1, n2, n3⟩ := nx (show Ng a _ z from hz)
    exact ⟨⟨z.k - 1, z.x⟩, ⟨n3, rfl, λ _ _ => rfl, rfl, rfl⟩, ⟨n1, hzl⟩, n2⟩
   ·obtain ⟨n1, n2, n3⟩ := nx (show Ng a _ z from hz)
    exact ⟨⟨z.k - 1, z.x⟩, ⟨rfl, n3, rfl, λ _ _ => rfl, rfl, rfl, rfl, λ _ _ => ⟨rfl, rfl, rfl⟩⟩, ⟨n1, hzl⟩, n2⟩
  ·have hI : Vh a y.k y.x := hy
   have e0 : y.x = mG a := by
    have := hI.2.2.2.1
    rw [show y.k = 0 by omega] at this; exact this
   obtain ⟨m1, m2⟩ := fl e0 hyl
   rw [m1, m2, <- e0]
   refine ⟨λ hc => ?_, λ _ => ⟨rfl, Nat.le_refl _, λ _ _ => ⟨rfl, rfl, rfl⟩, rfl, λ _ _ => rfl, rfl, λ _ _ => ⟨rfl, rfl, rfl, rfl⟩, rfl, λ _ _ => rfl, rfl, rfl⟩⟩
   have hc : ((y.x.l.length : Nat) : Int) = 0 := by simpa using hc
   omega
theorem CFY : AG Try.prog BHG (C_Made.spec dMkI) := JX C_Made BOK [] [303] BPS (λ _ => by kernel_rfl) (λ _ => AB Ra (AB BAW AE)) (λ (a : MkI) h => BZV a (show M0 a /\ True from h).1) (λ _ => KJ rfl rfl) _
end Go.Bal
