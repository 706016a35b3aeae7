/- Package rating: Stages, Dry. -/
import Derived.Test.YtoihhodbkimedaaRatM
set_option linter.unusedVariables false
set_option linter.unusedSimpArgs false
namespace Go.Bal
open Go Go.Sym Go.Proofs
structure GBf where
 a : GB
 f : Int
def dGBf : List AVal -> Heap -> Option (GBf × List (Nat × Nat) × List Nat)
 | [x, y, .d t], H => match AIZ x H, AEV y H with
  | some (l, f), some (m, e) => some (⟨⟨l, m⟩, DK t⟩, [], f ++ e)
  | _, _ => none
 | _, _ => none
def xGBf (x : GBf) : List AVal := [.d (BO x.a.g), .d (BL x.a.b), .int x.f]
def hsK : Nat -> (Int -> Bool) × (Int -> Int)
 | 0 => (λ _ => false, λ _ => 0)
 | k + 1 => (GX (hsK k).1 k, Vb (hsK k).1 (hsK k).2 k)
def wK (a : GB) (k : Nat) : Bk := ⟨a.g, a.b, (hsK k).1, (hsK k).2⟩
def stF (x : GBf) (k : Nat) : Int := upM cB ⟨BG x.a, k, ⟨x.f, 1⟩⟩ + 1
def stL (x : GBf) (k : Nat) : Int := upM wP ⟨BG x.a, k, ⟨x.f, 1⟩⟩
def lnK (a : GB) (k : Nat) : List Ln := DW (LD (BG a) k) (AR (BG a) k).lo
def stgS (x : GBf) : Nat -> Nat -> Span -> Bool -> Span × Int
 | 0, _, o, m => bif m then (o, 0) else (default, 5)
 | n + 1, k, o, m => bif decide ((lnK x.a k).length = 0) then (default, 6) else bif decide (stL x k < stF x k) then stgS x n (k + 1) o m else stgS x n (k + 1) ⟨bif m then o.lo else stF x k, stL x k⟩ true
def preB (a : GB) : Prop := a.g.length < 4611686018427387904 /\ a.b.length < 4611686018427387904
def inF (x : GBf) : Bool := FT x.f 0 200000
def ON (x : GBf) : Span × Int := bif AV x.a == 0 then (bif inF x then stgS x (x.a.b.length + 1) 0 default false else (default, 4)) else (default, AV x.a)
structure KOM where
 k : Nat
 o : Span
 m : Bool
 deriving Inhabited
def bkH (w : Bk) (p q : Nat) : List (Nat × HCell) := [(p, .live (bkB w q)), (q, .live (bkM w))]
def sg8 (x : GBf) : Shape := { α := KOM, dflt := default, T := λ y => ⟨[(2, .int x.f), (6, .bptr 1000 0), (8, .bptr 2032 0), (10, .bptr 7016 0), (11, .bool y.m), (36, .int (x.a.b.length + 1)), (37, .int y.k)], bkH (wK x.a y.k) 2032 2033 ++ [(1000, .live (.box [.int 0, .int 0])), (7016, .live (.box [.int y.o.lo, .int y.o.hi]))]⟩, inv := λ y => y.k <= x.a.b.length + 1 /\ ON x = stgS x (x.a.b.length + 1 - y.k) y.k y.o y.m, meas := λ y => x.a.b.length + 1 - y.k }
def C_Stages : Ctr := { α := GBf, xs := xGBf, L := λ _ => [], val := λ x => .tup [.d (BBQ (ON x).1), .int (ON x).2], keep := λ _ => [], pre := λ x => [preB x.a /\ True] }
def G_sg (c : Sym.Spec) : List (FuncId × Sym.Spec) := [(TW, c), (J5, s_in), (AZO, C_span.spec dBkI), (oP, C_lns.spec dBkS), (aF, orS ((tL cB EP).spec (dUpI EP)) ((tL wP ER).spec (dUpI ER)))]
def CHL (x : GBf) : Ann := { ann 75 (G_sg (C_open.spec dGB)) with loops := λ id => if id = 8 then some [sg8 x] else none }
def CJN : Ann := { ann 75 (G_sg (C_openX.spec dGB)) with cut := λ id => if id = 6 then some [] else none }
def CHM (x : GBf) : Prop := AY Try.prog (CHL x) Jw (AF Jw) (xGBf x) (AC []) (C_Stages.val x) [] [] []
abbrev AGO (x : GBf) : List Gau := AD x.a.g.length λ (i : Nat) => gD x.a.g i
abbrev AHX (x : GBf) : Nat := (AGO x).length
abbrev AHP (x : GBf) (i : Nat) : Gau := gD (AGO x) i
abbrev AFQ (x : GBf) : List Int := AD x.a.b.length λ (i : Nat) => gD x.a.b i
abbrev AGA (x : GBf) : Nat := (AFQ x).length
abbrev BEU (x : GBf) : GB := GB.mk (AGO x) (AFQ x)
abbrev AFM (x : GBf) : Prop := (ON x).fst.lo = (0 : Int)
abbrev AGW (x : GBf) : Prop := (ON x).fst.hi = (0 : Int)
abbrev Qt (x : GBf) : Int := (↑x.a.b.length : Int) + (1 : Int)
abbrev vW (x : GBf) : Bk := BG (BEU x)
abbrev ARC (x : GBf) : List Gau := (vW x).g
abbrev In (i : Nat) (x : GBf) (a : KOM) : Prop := i < (wK x.a a.k).g.length
abbrev Ni (x : GBf) (a : KOM) (i : Nat) : Gau := gD (wK x.a a.k).g i
abbrev SI (x : GBf) (a : KOM) (i : Nat) : Int := (Ni x a i).st
abbrev wO (x : GBf) (i : Nat) : Gau := gD (ARC x) i
abbrev SE (x : GBf) (a : KOM) (i : Nat) : Int := (Ni x a i).lo
abbrev SO (x : GBf) (a : KOM) (i : Nat) : Int := (Ni x a i).hi
abbrev AQH (x : GBf) : List Int := (vW x).b
abbrev Mr (i : Nat) (x : GBf) (a : KOM) : Prop := i < (wK x.a a.k).b.length
abbrev PJ (x : GBf) (a : KOM) (i : Nat) : Int := gD (wK x.a a.k).b i
abbrev ALB : Value := Value.slice none (0 : Nat) (0 : Nat)
abbrev IY : Prop := ALB = ALB
abbrev ANE (x : GBf) (n : Int) : List Ln := AK (vW x) n
abbrev oX (i : Nat) (x : GBf) (a : KOM) (n : Int) : Prop := i < (AK (wK x.a a.k) n).length
abbrev Ki (x : GBf) (a : KOM) (n : Int) (i : Nat) : Ln := gD (AK (wK x.a a.k) n) i
abbrev Lv (x : GBf) (a : KOM) (n : Int) (i : Nat) : Int := (Ki x a n i).a0
abbrev Jm (x : GBf) (n : Int) (i : Nat) : Ln := gD (ANE x n) i
abbrev Oj (x : GBf) (a : KOM) (n : Int) (i : Nat) : Int := (Ki x a n i).a1
abbrev Nq (x : GBf) (a : KOM) (n : Int) (i : Nat) : Int := (Ki x a n i).b0
abbrev Lz (x : GBf) (a : KOM) (n : Int) (i : Nat) : Int := (Ki x a n i).b1
abbrev KY : Prop := Int.ofNat (0 : Nat) = Int.ofNat (0 : Nat)
abbrev AUJ (x : GBf) : Nat := x.a.b.length + (1 : Nat)
abbrev uN (x : GBf) (a : KOM) : Nat := AUJ x - a.k
abbrev qV (a : KOM) (x : GBf) : Prop := a.k <= AUJ x /\ ON x = stgS x (uN x a) a.k a.o a.m
abbrev vX (a : KOM) : Prop := (↑a.k : Int) = (↑a.k : Int)
abbrev ZG (x : GBf) (a : KOM) : List Gau := AD (wK x.a a.k).g.length λ (i : Nat) => Ni x a i
abbrev Mo (x : GBf) (a : KOM) : Nat := (ZG x a).length
abbrev xS (x : GBf) (a : KOM) : Prop := Mo x a = (wK x.a a.k).g.length
abbrev uP (x : GBf) (a : KOM) (i : Nat) : Gau := gD (ZG x a) i
abbrev AWB (x : GBf) (a : KOM) (i : Nat) : Int := (uP x a i).st
abbrev AJP (x : GBf) (a : KOM) (i : Nat) : Int := (uP x a i).lo
abbrev AJU (x : GBf) (a : KOM) (i : Nat) : Int := (uP x a i).hi
abbrev vV (x : GBf) (a : KOM) : Prop := ∀ (i : Nat), i < Mo x a -> AWB x a i = SI x a i /\ AJP x a i = SE x a i /\ AJU x a i = SO x a i
abbrev UE (x : GBf) (a : KOM) : List Int := AD (wK x.a a.k).b.length λ (i : Nat) => PJ x a i
abbrev ZD (x : GBf) (a : KOM) : Nat := (UE x a).length
abbrev sX (x : GBf) (a : KOM) : Prop := ZD x a = (wK x.a a.k).b.length
abbrev ATG (x : GBf) (a : KOM) (i : Nat) : Int := gD (UE x a) i
abbrev pM (x : GBf) (a : KOM) : Prop := ∀ (i : Nat), i < ZD x a -> ATG x a i = PJ x a i
abbrev pR (x : GBf) (a : KOM) : Prop := ∀ (n : Int), (wK x.a a.k).has n = (wK x.a a.k).has n
abbrev vN (x : GBf) (a : KOM) : Prop := ∀ (n : Int), (wK x.a a.k).st n = (wK x.a a.k).st n
abbrev Hx (x : GBf) (a : KOM) : Bk := Bk.mk (ZG x a) (UE x a) (wK x.a a.k).has (wK x.a a.k).st
abbrev AMR (x : GBf) (a : KOM) (n : Int) : List Ln := AK (Hx x a) n
abbrev xO (x : GBf) (a : KOM) (n : Int) : Nat := (AMR x a n).length
abbrev Lf (x : GBf) (a : KOM) (n : Int) (i : Nat) : Ln := gD (AMR x a n) i
abbrev AUX (x : GBf) (a : KOM) (n : Int) (i : Nat) : Int := (Lf x a n i).a0
abbrev AYM (x : GBf) (a : KOM) (n : Int) (i : Nat) : Int := (Lf x a n i).a1
abbrev AXA (x : GBf) (a : KOM) (n : Int) (i : Nat) : Int := (Lf x a n i).b0
abbrev ATY (x : GBf) (a : KOM) (n : Int) (i : Nat) : Int := (Lf x a n i).b1
abbrev AVC (x : GBf) (a : KOM) : Prop := ∀ (n : Int), xO x a n = (AK (wK x.a a.k) n).length /\ ∀ (i : Nat), i < xO x a n -> AUX x a n i = Lv x a n i /\ AYM x a n i = Oj x a n i /\
 AXA x a n i = Nq x a n i /\ ATY x a n i = Lz x a n i
abbrev ANN (x : GBf) (a : KOM) : Prop := (wK x.a a.k).g.length = Mo x a
abbrev ANJ (x : GBf) (a : KOM) : Prop := ∀ (i : Nat), In i x a -> SI x a i = AWB x a i /\ SE x a i = AJP x a i /\ SO x a i = AJU x a i
abbrev AZX (x : GBf) (a : KOM) : Prop := (wK x.a a.k).b.length = ZD x a
abbrev AUR (x : GBf) (a : KOM) : Prop := ∀ (i : Nat), Mr i x a -> PJ x a i = ATG x a i
abbrev uG (x : GBf) (a : KOM) : Prop := Mo x a <= (24 : Nat) /\ (∀ (x_1 : Gau), List.Mem x_1 (ZG x a) -> (0 : Int) <= x_1.st /\ x_1.st <= (2000 : Int) /\ (0 : Int) <= x_1.lo /\ x_1.lo <= x_1.hi /\ x_1.hi <= (200000
 : Int)) /\ ZD x a <= (24 : Nat) /\ List.Pairwise (λ (x1 x2 : Int) => x1 < x2) (UE x a) /\ ∀ (x_1 : Int), List.Mem x_1 (UE x a) -> (1 : Int) <= x_1 /\ x_1 <= (2000 : Int)
abbrev ARY (a : KOM) : Prop := (0 : Int) <= (↑a.k : Int)
abbrev AVN (a : KOM) (x : GBf) : Prop := (↑a.k : Int) <= (↑(ZD x a) : Int)
abbrev TF (x : GBf) (a : KOM) : Int := (AR (Hx x a) (↑a.k : Int)).lo
abbrev KN (x : GBf) (a : KOM) : Bk := CK (Hx x a) (↑a.k : Int)
abbrev AOZ (x : GBf) (a : KOM) : List Gau := (KN x a).g
abbrev sH (x : GBf) (a : KOM) (i : Nat) : Gau := gD (AOZ x a) i
abbrev AOQ (x : GBf) (a : KOM) : List Int := (KN x a).b
abbrev tG (x : GBf) (a : KOM) (n : Int) : Bool := (KN x a).has n
abbrev AVH (x : GBf) (a : KOM) : Prop := ∀ (n : Int), tG x a n = tG x a n
abbrev rN (x : GBf) (a : KOM) (n : Int) : Int := (KN x a).st n
abbrev AIY (x : GBf) (a : KOM) : Prop := ∀ (n : Int), rN x a n = rN x a n
abbrev ARZ (x : GBf) (a : KOM) : Bk := Bk.mk (ZG x a) (UE x a) (KN x a).has (KN x a).st
abbrev AOK (x : GBf) (a : KOM) (n : Int) : List Ln := AK (ARZ x a) n
abbrev rA (x : GBf) (a : KOM) (n : Int) : Nat := (AOK x a n).length
abbrev AQT (x : GBf) (a : KOM) (n : Int) : List Ln := AK (KN x a) n
abbrev Jb (x : GBf) (a : KOM) (n : Int) : Nat := (AQT x a n).length
abbrev Ii (x : GBf) (a : KOM) (n : Int) (i : Nat) : Ln := gD (AOK x a n) i
abbrev ARU (x : GBf) (a : KOM) (n : Int) (i : Nat) : Int := (Ii x a n i).a0
abbrev Lp (x : GBf) (a : KOM) (n : Int) (i : Nat) : Ln := gD (AQT x a n) i
abbrev sG (x : GBf) (a : KOM) (n : Int) (i : Nat) : Int := (Lp x a n i).a0
abbrev AVR (x : GBf) (a : KOM) (n : Int) (i : Nat) : Int := (Ii x a n i).a1
abbrev oU (x : GBf) (a : KOM) (n : Int) (i : Nat) : Int := (Lp x a n i).a1
abbrev AXD (x : GBf) (a : KOM) (n : Int) (i : Nat) : Int := (Ii x a n i).b0
abbrev wF (x : GBf) (a : KOM) (n : Int) (i : Nat) : Int := (Lp x a n i).b0
abbrev ATX (x : GBf) (a : KOM) (n : Int) (i : Nat) : Int := (Ii x a n i).b1
abbrev qW (x : GBf) (a : KOM) (n : Int) (i : Nat) : Int := (Lp x a n i).b1
abbrev AOV : Prop := (1 : Int) = (1 : Int)
abbrev APP (a : KOM) (x : GBf) : Prop := vX a /\ xS x a /\ vV x a /\ sX x a /\ pM x a /\ IY /\ AVH x a /\ AIY x a /\ (∀ (n : Int), rA x a n = Jb x a n /\ ∀ (i : Nat),
 i < rA x a n -> ARU x a n i = sG x a n i /\ AVR x a n i = oU x a n i /\ AXD x a n i = wF x a n i /\ ATX x a n i = qW x a n i) /\ x.f = x.f /\ AOV /\ ANN x a /\ ANJ
 x a /\ AZX x a /\ AUR x a /\ IY /\ AVH x a /\ AIY x a /\ (∀ (n : Int), Jb x a n = rA x a n /\ ∀ (i : Nat), i < Jb x a n -> sG x a n i = ARU x a n i /\ oU x a n i =
 AVR x a n i /\ wF x a n i = AXD x a n i /\ qW x a n i = ATX x a n i) /\ x.f = x.f /\ AOV /\ uG x a /\ ARY a /\ AVN a x /\ (KN x a).has (↑a.k : Int) = true
abbrev BAA (x : GBf) (a : KOM) : UpI := UpI.mk (ARZ x a) (↑a.k : Int) (Rt.mk x.f (1 : Int))
abbrev AQW (x : GBf) (a : KOM) : Int := IntKind.i64.wrap (upM cB (BAA x a) + (1 : Int))
abbrev APD (x : GBf) (a : KOM) : Int := upM wP (BAA x a)
abbrev tS (x : GBf) : Prop := Qt x = Qt x
abbrev uD (a : KOM) (a1 : KOM) : Prop := (↑a.k : Int) = IntKind.i64.wrap ((↑a1.k : Int) + (1 : Int))
abbrev rK (x : GBf) (a : KOM) (a1 : KOM) : Prop := (wK x.a a.k).g.length = (wK x.a a1.k).g.length
abbrev rP (x : GBf) (a : KOM) (a1 : KOM) : Prop := ∀ (i : Nat), In i x a -> SI x a i = SI x a1 i /\ SE x a i = SE x a1 i /\ SO x a i = SO x a1 i
abbrev xN (x : GBf) (a : KOM) (a1 : KOM) : Prop := (wK x.a a.k).b.length = (wK x.a a1.k).b.length
abbrev Tu (x : GBf) (a : KOM) (a1 : KOM) : Prop := ∀ (i : Nat), Mr i x a -> PJ x a i = PJ x a1 i
abbrev Sa (x : GBf) (a : KOM) (a1 : KOM) : Prop := ∀ (n : Int), (wK x.a a.k).has n = tG x a1 n
abbrev Pk (x : GBf) (a : KOM) (a1 : KOM) : Prop := ∀ (n : Int), (wK x.a a.k).st n = rN x a1 n
abbrev Rd (x : GBf) (a : KOM) (a1 : KOM) : Prop := ∀ (n : Int), (AK (wK x.a a.k) n).length = Jb x a1 n /\ ∀ (i : Nat), oX i x a n -> Lv x a n i = sG x a1 n i /\ Oj x a n i = oU x
 a1 n i /\ Nq x a n i = wF x a1 n i /\ Lz x a n i = qW x a1 n i
abbrev Pc (a : KOM) (x : GBf) (a1 : KOM) : Prop := qV a x /\ uN x a < uN x a1
abbrev Y8 (a : KOM) (x : GBf) (a1 : KOM) : Prop := a.o.hi = APD x a1
theorem CMH (x : GBf) : (CHM x) = ((AHX x = x.a.g.length /\ (∀ (i : Nat), i < AHX x -> (AHP x i).st = (gD x.a.g i).st /\ (AHP x i).lo = (gD x.a.g i).lo /\ (AHP x i).hi = (gD x.a.g i).hi) /\ AGA x
 = x.a.b.length /\ (∀ (i : Nat), i < AGA x -> gD (AFQ x) i = gD x.a.b i) /\ AHX x < (4611686018427387904 : Nat) /\ AGA x < (4611686018427387904 : Nat) /\ AV (BEU x) = (0 : Int)) /\ bif bif (0 : Int) == (0
 : Int) then !FT x.f (0 : Int) (200000 : Int) else false then AFM x /\ AGW x /\ (ON x).snd = (4 : Int) else (∃ (a : KOM), (x.f = x.f /\ a.m = false /\ Qt x = IntKind.i64.wrap (Qt x) /\ (↑a.k : Int) = (0 :
 Int) /\ (wK x.a a.k).g.length = (ARC x).length /\ (∀ (i : Nat), In i x a -> SI x a i = (wO x i).st /\ SE x a i = (wO x i).lo /\ SO x a i = (wO x i).hi) /\ (wK x.a a.k).b.length =
 (AQH x).length /\ (∀ (i : Nat), Mr i x a -> PJ x a i = gD (AQH x) i) /\ IY /\ (∀ (n : Int), (wK x.a a.k).has n = false) /\ (∀ (n : Int), (wK x.a a.k).st n = (vW x).st n) /\ (∀ (n : Int), (AK
 (wK x.a a.k) n).length = (ANE x n).length /\ ∀ (i : Nat), oX i x a n -> Lv x a n i = (Jm x n i).a0 /\ Oj x a n i = (Jm x n i).a1 /\ Nq x a n i = (Jm x n i).b0 /\ Lz x a n i
 = (Jm x n i).b1) /\ KY /\ KY /\ a.o.lo = (0 : Int) /\ a.o.hi = (0 : Int)) /\ qV a x) /\ ∀ (a : KOM), qV a x -> bif decide ((↑a.k : Int) < Qt x) then (vX a /\ xS x a /\ vV x a /\
 sX x a /\ pM x a /\ IY /\ pR x a /\ vN x a /\ AVC x a /\ ANN x a /\ ANJ x a /\ AZX x a /\ AUR x a /\ IY /\ pR x a /\ vN x a /\ (∀ (n : Int), (AK (wK x.a a.k)
 n).length = xO x a n /\ ∀ (i : Nat), oX i x a n -> Lv x a n i = AUX x a n i /\ Oj x a n i = AYM x a n i /\ Nq x a n i = AXA x a n i /\ Lz x a n i = ATY x a n i) /\
 (uG x a /\ ARY a /\ AVN a x) /\ vX a /\ TF x a = TF x a /\ xS x a /\ vV x a /\ sX x a /\ pM x a /\ IY /\ pR x a /\ vN x a /\ AVC x a /\ (wK x.a
 a.k).g.length = (AOZ x a).length /\ (∀ (i : Nat), In i x a -> SI x a i = (sH x a i).st /\ SE x a i = (sH x a i).lo /\ SO x a i = (sH x a i).hi) /\ (wK x.a a.k).b.length =
 (AOQ x a).length /\ (∀ (i : Nat), Mr i x a -> PJ x a i = gD (AOQ x a) i) /\ uG x a /\ (0 : Int) <= TF x a /\ TF x a <= (2000 : Int)) /\ bif (↑(DW (sB (BkS.mk (Hx x a) (↑a.k : Int)
 (TF x a))) (TF x a)).length : Int) == (0 : Int) then AFM x /\ AGW x /\ (ON x).snd = (6 : Int) else APP a x /\ APP a x /\ bif decide (AQW x a > APD x a) then ∃ (a_2 : KOM), (x.f = x.f
 /\ a_2.m = a.m /\ tS x /\ uD a_2 a /\ rK x a_2 a /\ rP x a_2 a /\ xN x a_2 a /\ Tu x a_2 a /\ IY /\ Sa x a_2 a /\ Pk x a_2 a /\ Rd x a_2 a /\ KY /\ KY /\
 a_2.o.lo = a.o.lo /\ a_2.o.hi = a.o.hi) /\ Pc a_2 x a else bif !a.m then ∃ (a_2 : KOM), (x.f = x.f /\ a_2.m = true /\ tS x /\ uD a_2 a /\ rK x a_2 a /\ rP x a_2 a /\ xN x a_2 a /\ Tu x
 a_2 a /\ IY /\ Sa x a_2 a /\ Pk x a_2 a /\ Rd x a_2 a /\ KY /\ KY /\ a_2.o.lo = AQW x a /\ Y8 a_2 x a) /\ Pc a_2 x a else ∃ (a_2 : KOM), (x.f = x.f /\ a_2.m = a.m /\
 tS x /\ uD a_2 a /\ rK x a_2 a /\ rP x a_2 a /\ xN x a_2 a /\ Tu x a_2 a /\ IY /\ Sa x a_2 a /\ Pk x a_2 a /\ Rd x a_2 a /\ KY /\ KY /\ a_2.o.lo = a.o.lo /\
 Y8 a_2 x a) /\ Pc a_2 x a else bif !a.m then AFM x /\ AGW x /\ (ON x).snd = (5 : Int) else (ON x).fst.lo = a.o.lo /\ (ON x).fst.hi = a.o.hi /\ (ON x).snd = (0 : Int)) := by kernel_rfl
def CHX (x : GBf) : Prop := AY Try.prog CJN Jw (AF Jw) (xGBf x) (AC []) (C_Stages.val x) [] [] []
theorem CMM (x : GBf) : (CHX x) = (((AD x.a.g.length λ (i : Nat) => gD x.a.g i).length = x.a.g.length /\ (∀ (i : Nat), i < (AD x.a.g.length λ (i : Nat) => gD x.a.g i).length -> (gD (AD x.a.g.length λ (i :
 Nat) => gD x.a.g i) i).st = (gD x.a.g i).st /\ (gD (AD x.a.g.length λ (i : Nat) => gD x.a.g i) i).lo = (gD x.a.g i).lo /\ (gD (AD x.a.g.length λ (i : Nat) => gD x.a.g i) i).hi = (gD x.a.g i).hi) /\ (AD x.a.b.length
 λ (i : Nat) => gD x.a.b i).length = x.a.b.length /\ (∀ (i : Nat), i < (AD x.a.b.length λ (i : Nat) => gD x.a.b i).length -> gD (AD x.a.b.length λ (i : Nat) => gD x.a.b i) i = gD x.a.b i) /\ (AD x.a.g.length λ (i
 : Nat) => gD x.a.g i).length < 4611686018427387904 /\ (AD x.a.b.length λ (i : Nat) => gD x.a.b i).length < 4611686018427387904 /\ AV (GB.mk (AD x.a.g.length λ (i : Nat) => gD x.a.g i) (AD x.a.b.length λ (i :
 Nat) => gD x.a.b i)) ≠ 0) /\ bif bif AV (GB.mk (AD x.a.g.length λ (i : Nat) => gD x.a.g i) (AD x.a.b.length λ (i : Nat) => gD x.a.b i)) == 0 then !FT x.f 0 200000 else false then ((ON x).fst.lo = 0 /\ (ON
 x).fst.hi = 0 /\ (ON x).snd = 4) /\ True else (bif AV (GB.mk (AD x.a.g.length λ (i : Nat) => gD x.a.g i) (AD x.a.b.length λ (i : Nat) => gD x.a.b i)) != 0 then (ON x).fst.lo = 0 /\ (ON x).fst.hi = 0 /\ (ON
 x).snd = AV (GB.mk (AD x.a.g.length λ (i : Nat) => gD x.a.g i) (AD x.a.b.length λ (i : Nat) => gD x.a.b i)) else False) /\ True) := by kernel_rfl
theorem BMS {pr : Int -> Bool} : ∀ (n : Nat) (lo hi : Int), lo <= hi -> lo <= yL pr n lo hi /\ yL pr n lo hi <= hi
 | 0, lo, hi, h => ⟨Int.le_refl _, h⟩
 | n + 1, lo, hi, h => by
  unfold yL
  by_cases hl : lo < hi
  ·obtain ⟨h3, h4⟩ := gR hl
   rw [decide_eq_true hl]
   cases pr (lo + (hi - lo + 1).tdiv 2)
   ·have := BMS (pr := pr) n lo (lo + (hi - lo + 1).tdiv 2 - 1) (by omega); exact ⟨this.1, by have := this.2; show yL _ _ _ _ <= _; omega⟩
   ·have := BMS (pr := pr) n (lo + (hi - lo + 1).tdiv 2) hi h4; exact ⟨by have := this.1; show _ <= yL _ _ _ _; omega, this.2⟩
  ·rw [decide_eq_false hl]; exact ⟨Int.le_refl _, h⟩
theorem BWW {v : BnF -> Bool} {a : UpI} (h : HI a.w.g a.w.b) (h1 : 0 <= a.k) (h2 : a.k <= a.w.b.length) : (AR a.w a.k).lo - 1 <= upM v a /\ upM v a <= (AR a.w a.k).hi /\ -1 <= upM v a /\ upM v a <= 2000 := by
 obtain ⟨s1, s2, s3, _⟩ := Ha h h1 h2
 obtain ⟨i1, i2⟩ := BMS (pr := upP v a) 3000 ((AR a.w a.k).lo - 1) (AR a.w a.k).hi (by omega)
 unfold upM; omega
theorem CPM (x : GBf) (h : preB x.a) (hE : AV x.a = 0) : CHM x := by
 rw [CMH]; delta AGO AHX AHP AFQ AGA BEU AFM AGW Qt vW ARC In Ni SI wO SE SO AQH Mr PJ ALB IY ANE oX Ki Lv Jm Oj Nq Lz KY AUJ uN qV vX ZG Mo xS uP AWB AJP AJU vV UE ZD sX ATG pM pR vN Hx AMR xO Lf AUX AYM AXA ATY AVC ANN ANJ AZX AUR uG ARY AVN TF KN AOZ sH AOQ tG AVH rN AIY ARZ AOK rA AQT Jb Ii ARU Lp sG AVR oU AXD wF ATX qW AOV APP BAA AQW APD tS uD rK rP xN Tu Sa Pk Rd Pc Y8; simp only [CC, eq_self, implies_true, forall_const, LB, OO, Vi, Vs, OR, if_true]
 have hb : HI x.a.g x.a.b := AIG hE
 have hl24 : x.a.b.length <= 24 := hb.2.2.1
 have e0 : AV x.a == 0 := by rw [hE]; rfl
 refine ⟨⟨h.1, h.2, hE⟩, λ hf => ?_, λ hf => ⟨⟨⟨0, default, false⟩, ⟨rfl, (EO (by omega) (by omega)).symm, rfl, rfl, λ _ _ => ⟨rfl, rfl, rfl⟩, rfl, λ _ _ => rfl, λ _ => rfl, λ _ => rfl, λ _ => ⟨rfl, λ _ _ => ⟨rfl, rfl, rfl, rfl⟩⟩, rfl, rfl⟩, Nat.zero_le _, ?_⟩, λ y ⟨hy1, hy2⟩ => ⟨λ hlt => ?_, λ hge => ?_⟩⟩⟩
 ·have e : ON x = (default, 4) := by
   have hf : (!inF x) = true := hf
   unfold ON; rw [e0, show inF x = false by simpa using hf]; rfl
  rw [e]; exact ⟨rfl, rfl, rfl⟩
 ·have hf : (!inF x) = false := hf
  show ON x = _
  unfold ON; rw [e0, show inF x = true by simpa using hf]; rfl
 ·have hlt : y.k <= x.a.b.length := by omega
  have hs := Ha (w := wK x.a y.k) (k := y.k) hb (by omega) (by show (y.k : Int) <= (x.a.b.length : Nat); omega)
  have hkk : (0 : Int) <= (y.k : Int) /\ (y.k : Int) <= ((wK x.a y.k).b.length : Nat) := ⟨by omega, by show (y.k : Int) <= (x.a.b.length : Nat); omega⟩
  have hup : (CK (wK x.a y.k) y.k).has y.k = true := by show GX _ _ _ = true; simp [GX]
  obtain ⟨n, hn⟩ : ∃ n, x.a.b.length + 1 - y.k = n + 1 := ⟨x.a.b.length - y.k, by omega⟩
  have hn2 : x.a.b.length + 1 - (y.k + 1) = n := by omega
  have hn3 : x.a.b.length + 1 - (y.k + 1) < x.a.b.length + 1 - y.k := by omega
  have key := hy2
  rw [hn] at key; unfold stgS at key
  have u1 := BWW (v := cB) (a := ⟨CK (wK x.a y.k) y.k, y.k, ⟨x.f, 1⟩⟩) hb hkk.1 hkk.2
  have e1 : IntKind.i64.wrap (upM cB ⟨CK (wK x.a y.k) y.k, y.k, ⟨x.f, 1⟩⟩ + 1) = stF x y.k := EO (by omega) (by omega)
  have e2 : upM wP ⟨CK (wK x.a y.k) y.k, y.k, ⟨x.f, 1⟩⟩ = stL x y.k := rfl
  rw [e1, e2]
  have ek : ((y.k + 1 : Nat) : Int) = IntKind.i64.wrap ((y.k : Int) + 1) := by rw [EO (by omega) (by omega)]; rfl
  refine ⟨⟨⟨hb, hkk⟩, hb, hs.1, by omega⟩, λ hc => ?_, λ hc => ⟨⟨hb, hkk.1, hkk.2, hup⟩, ⟨hb, hkk.1, hkk.2, hup⟩, λ hg => ?_, λ hg => ⟨λ hm => ?_, λ hm => ?_⟩⟩⟩
  ·have hc : ((lnK x.a y.k).length : Int) == 0 := hc
   rw [decide_eq_true (show (lnK x.a y.k).length = 0 by have := eq_of_beq hc; omega)] at key
   rw [key]; exact ⟨rfl, rfl, rfl⟩
  all_goals
   have hc : (((lnK x.a y.k).length : Int) == 0) = false := hc
   rw [decide_eq_false (show ¬(lnK x.a y.k).length = 0 by intro h0; rw [h0] at hc; cases hc)] at key
  ·rw [decide_eq_true (show stL x y.k < stF x y.k from hg)] at key
   exact ⟨⟨y.k + 1, y.o, y.m⟩, ⟨rfl, ek, rfl, λ _ _ => ⟨rfl, rfl, rfl⟩, rfl, λ _ _ => rfl, λ _ => rfl, λ _ => rfl, λ _ => ⟨rfl, λ _ _ => ⟨rfl, rfl, rfl, rfl⟩⟩, rfl, rfl⟩, ⟨by show y.k + 1 <= _; omega, by show ON x = stgS x (x.a.b.length + 1 - (y.k + 1)) _ _ _; rw [hn2]; exact key⟩, hn3⟩
  ·rw [decide_eq_false (show ¬stL x y.k < stF x y.k from hg), hm] at key
   exact ⟨⟨y.k + 1, ⟨stF x y.k, stL x y.k⟩, true⟩, ⟨rfl, ek, rfl, λ _ _ => ⟨rfl, rfl, rfl⟩, rfl, λ _ _ => rfl, λ _ => rfl, λ _ => rfl, λ _ => ⟨rfl, λ _ _ => ⟨rfl, rfl, rfl, rfl⟩⟩, rfl, rfl⟩, ⟨by show y.k + 1 <= _; omega, by show ON x = stgS x (x.a.b.length + 1 - (y.k + 1)) _ _ _; rw [hn2]; exact key⟩, hn3⟩
  ·rw [decide_eq_false (show ¬stL x y.k < stF x y.k from hg), hm] at key
   exact ⟨⟨y.k + 1, ⟨y.o.lo, stL x y.k⟩, true⟩, ⟨hm.symm, ek, rfl, λ _ _ => ⟨rfl, rfl, rfl⟩, rfl, λ _ _ => rfl, λ _ => rfl, λ _ => rfl, λ _ => ⟨rfl, λ _ _ => ⟨rfl, rfl, rfl, rfl⟩⟩, rfl, rfl⟩, ⟨by show y.k + 1 <= _; omega, by show ON x = stgS x (x.a.b.length + 1 - (y.k + 1)) _ _ _; rw [hn2]; exact key⟩, hn3⟩
 ·have hk : x.a.b.length + 1 - y.k = 0 := by omega
  rw [hk] at hy2; unfold stgS at hy2
  refine ⟨λ hm => ?_, λ hm => ?_⟩ <;> rw [hm] at hy2 <;> rw [hy2] <;> exact ⟨rfl, rfl, rfl⟩
theorem CPX (x : GBf) (h : preB x.a) (hE : AV x.a ≠ 0) : CHX x := by
 rw [CMM]; simp only [CC, eq_self, implies_true, forall_const, LB, OO, Vi, Vs, OR, if_true]
 have hE : AV ⟨x.a.g, x.a.b⟩ ≠ 0 := hE
 have e0 : (AV ⟨x.a.g, x.a.b⟩ == 0) = false := by simpa using hE
 rw [e0]
 refine ⟨⟨h.1, h.2, hE⟩, λ hc => (by cases hc), λ _ => ⟨λ _ => ?_, λ hc => ?_⟩⟩
 ·have e : ON x = (default, AV x.a) := by unfold ON; rw [show (AV x.a == 0) = false from e0]; rfl
  rw [e]; exact ⟨rfl, rfl, rfl⟩
 ·exact hE (by simpa using hc)
theorem BUP : AG Try.prog AYW (C_Stages.spec dGBf) := Ctr.spec_ok (C := C_Stages) (λ (x : GBf) h => by
 have h : preB x.a := (show preB x.a /\ True from h).1
 by_cases hE : AV x.a = 0
 ·exact RD (A := CHL x) (L := []) (keep := []) (ren := []) (fz := []) BBY (by kernel_rfl) (AB AGG (AB Ka (AB Pw (AB N0 (AB (Y1 CBZ CCA) AE))))) (CPM x h hE)
 ·exact RD (A := CJN) (L := []) (keep := []) (ren := []) (fz := []) BBY (by kernel_rfl) (AB AOM (AB Ka (AB Pw (AB N0 (AB (Y1 CBZ CCA) AE))))) (CPX x h hE)) _
end Go.Bal
