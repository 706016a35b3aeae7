/- Package rating: Stages, Dry. -/
import Derived.Test.YtoihhodbkimedaaGreatRatM
set_option linter.unusedVariables false
set_option linter.unusedSimpArgs false
namespace Go.Bal
open Go Go.Sym Go.Proofs
structure GBf where
 a : GB
 f : Int
def dGBf : List AVal -> Heap -> Option (GBf × List (Nat × Nat) × List Nat)
 | [x, y, .d t], H => match Bc x H, XT y H with
  | some (l, f), some (m, e) => some (⟨⟨l, m⟩, DH t⟩, [], f ++ e)
  | _, _ => none
 | _, _ => none
def xGBf (x : GBf) : List AVal := [.d (AS x.a.g), .d (BC x.a.b), .int x.f]
def hsK : Nat -> (Int -> Bool) × (Int -> Int)
 | 0 => (λ _ => false, λ _ => 0)
 | k + 1 => (GN (hsK k).1 k, Qj (hsK k).1 (hsK k).2 k)
def wK (a : GB) (k : Nat) : Bk := ⟨a.g, a.b, (hsK k).1, (hsK k).2⟩
def Yn (x : GBf) (k : Nat) : Int := upM eT ⟨AP x.a, k, ⟨x.f, 1⟩⟩ + 1
def Yo (x : GBf) (k : Nat) : Int := upM Ym ⟨AP x.a, k, ⟨x.f, 1⟩⟩
def lnK (a : GB) (k : Nat) : List Ln := CR (KY (AP a) k) (AR (AP a) k).lo
def LF (x : GBf) : Nat -> Nat -> Span -> Bool -> Span × Int
 | 0, _, o, m => bif m then (o, 0) else (default, 5)
 | n + 1, k, o, m => bif decide ((lnK x.a k).length = 0) then (default, 6) else bif decide (Yo x k < Yn x k) then LF x n (k + 1) o m else LF x n (k + 1) ⟨bif m then o.lo else Yn x k, Yo x k⟩ true
def preB (a : GB) : Prop := a.g.length < 4611686018427387904 /\ a.b.length < 4611686018427387904
def inF (x : GBf) : Bool := BY x.f 0 200000
def CA (x : GBf) : Span × Int := bif AH x.a == 0 then (bif inF x then LF x (x.a.b.length + 1) 0 default false else (default, 4)) else (default, AH x.a)
structure KOM where
 k : Nat
 o : Span
 m : Bool
 deriving Inhabited
def bkH (w : Bk) (p q : Nat) : List (Nat × HCell) := [(p, .live (bkB w q)), (q, .live (bkM w))]
def sg8 (x : GBf) : Shape := { α := KOM, dflt := default, T := λ y => ⟨[(2, .int x.f), (6, .bptr 1000 0), (8, .bptr 2032 0), (10, .bptr 7016 0), (11, .bool y.m), (36, .int (x.a.b.length + 1)), (37, .int y.k)], bkH (wK x.a y.k) 2032 2033 ++ [(1000, .live (.box [.int 0, .int 0])), (7016, .live (.box [.int y.o.lo, .int y.o.hi]))]⟩, inv := λ y => y.k <= x.a.b.length + 1 /\ CA x = LF x (x.a.b.length + 1 - y.k) y.k y.o y.m, meas := λ y => x.a.b.length + 1 - y.k }
def C_Stages : Ctr := { α := GBf, xs := xGBf, L := λ _ => [], val := λ x => .tup [.d (AFS (CA x).1), .int (CA x).2], keep := λ _ => [], pre := λ x => [preB x.a /\ True] }
def G_sg (c : Sym.Spec) : List (FuncId × Sym.Spec) := [(QA, c), (sE, Q7), (ALE, C_span.spec dBkI), (tN, C_lns.spec dBkS), (iU, orS ((pQ eT EO).spec (dUpI EO)) ((pQ Ym EW).spec (dUpI EW)))]
def CPI (x : GBf) : Ann := { ann 75 (G_sg (C_open.spec dGB)) with loops := λ id => if id = 8 then some [sg8 x] else none }
def CQI : Ann := { ann 75 (G_sg (C_openX.spec dGB)) with cut := λ id => if id = 6 then some [] else none }
def COE (x : GBf) : Prop := AN Try.prog (CPI x) Mc (AF Mc) (xGBf x) (AC []) (C_Stages.val x) [] [] []
abbrev AJR (x : GBf) : List Gau := AE x.a.g.length λ (i : Nat) => gD x.a.g i
abbrev AJA (x : GBf) : Nat := (AJR x).length
abbrev AHQ (x : GBf) (i : Nat) : Gau := gD (AJR x) i
abbrev AHF (x : GBf) : List Int := AE x.a.b.length λ (i : Nat) => gD x.a.b i
abbrev AIR (x : GBf) : Nat := (AHF x).length
abbrev BIX (x : GBf) : GB := GB.mk (AJR x) (AHF x)
abbrev AJT (x : GBf) : Prop := (CA x).fst.lo = (0 : Int)
abbrev AJF (x : GBf) : Prop := (CA x).fst.hi = (0 : Int)
abbrev Up (x : GBf) : Int := (↑x.a.b.length : Int) + (1 : Int)
abbrev oR (x : GBf) : Bk := AP (BIX x)
abbrev AYR (x : GBf) : List Gau := (oR x).g
abbrev Km (i : Nat) (x : GBf) (a : KOM) : Prop := i < (wK x.a a.k).g.length
abbrev Px (x : GBf) (a : KOM) (i : Nat) : Gau := gD (wK x.a a.k).g i
abbrev TX (x : GBf) (a : KOM) (i : Nat) : Int := (Px x a i).st
abbrev tE (x : GBf) (i : Nat) : Gau := gD (AYR x) i
abbrev US (x : GBf) (a : KOM) (i : Nat) : Int := (Px x a i).lo
abbrev TB (x : GBf) (a : KOM) (i : Nat) : Int := (Px x a i).hi
abbrev ALC (x : GBf) : List Int := (oR x).b
abbrev Lf (i : Nat) (x : GBf) (a : KOM) : Prop := i < (wK x.a a.k).b.length
abbrev PV (x : GBf) (a : KOM) (i : Nat) : Int := gD (wK x.a a.k).b i
abbrev ALT : Value := Value.slice none (0 : Nat) (0 : Nat)
abbrev JH : Prop := ALT = ALT
abbrev AUH (x : GBf) (n : Int) : List Ln := AK (oR x) n
abbrev uM (i : Nat) (x : GBf) (a : KOM) (n : Int) : Prop := i < (AK (wK x.a a.k) n).length
abbrev Jw (x : GBf) (a : KOM) (n : Int) (i : Nat) : Ln := gD (AK (wK x.a a.k) n) i
abbrev Ko (x : GBf) (a : KOM) (n : Int) (i : Nat) : Int := (Jw x a n i).a0
abbrev On (x : GBf) (n : Int) (i : Nat) : Ln := gD (AUH x n) i
abbrev Kn (x : GBf) (a : KOM) (n : Int) (i : Nat) : Int := (Jw x a n i).a1
abbrev Ps (x : GBf) (a : KOM) (n : Int) (i : Nat) : Int := (Jw x a n i).b0
abbrev Lr (x : GBf) (a : KOM) (n : Int) (i : Nat) : Int := (Jw x a n i).b1
abbrev LE : Prop := Int.ofNat (0 : Nat) = Int.ofNat (0 : Nat)
abbrev AOL (x : GBf) : Nat := x.a.b.length + (1 : Nat)
abbrev tG (x : GBf) (a : KOM) : Nat := AOL x - a.k
abbrev qM (a : KOM) (x : GBf) : Prop := a.k <= AOL x /\ CA x = LF x (tG x a) a.k a.o a.m
abbrev sQ (a : KOM) : Prop := (↑a.k : Int) = (↑a.k : Int)
abbrev Ah (x : GBf) (a : KOM) : List Gau := AE (wK x.a a.k).g.length λ (i : Nat) => Px x a i
abbrev Md (x : GBf) (a : KOM) : Nat := (Ah x a).length
abbrev sV (x : GBf) (a : KOM) : Prop := Md x a = (wK x.a a.k).g.length
abbrev sC (x : GBf) (a : KOM) (i : Nat) : Gau := gD (Ah x a) i
abbrev AVG (x : GBf) (a : KOM) (i : Nat) : Int := (sC x a i).st
abbrev APG (x : GBf) (a : KOM) (i : Nat) : Int := (sC x a i).lo
abbrev AMB (x : GBf) (a : KOM) (i : Nat) : Int := (sC x a i).hi
abbrev tW (x : GBf) (a : KOM) : Prop := ∀ (i : Nat), i < Md x a -> AVG x a i = TX x a i /\ APG x a i = US x a i /\ AMB x a i = TB x a i
abbrev TO (x : GBf) (a : KOM) : List Int := AE (wK x.a a.k).b.length λ (i : Nat) => PV x a i
abbrev YD (x : GBf) (a : KOM) : Nat := (TO x a).length
abbrev oX (x : GBf) (a : KOM) : Prop := YD x a = (wK x.a a.k).b.length
abbrev AZY (x : GBf) (a : KOM) (i : Nat) : Int := gD (TO x a) i
abbrev pX (x : GBf) (a : KOM) : Prop := ∀ (i : Nat), i < YD x a -> AZY x a i = PV x a i
abbrev pG (x : GBf) (a : KOM) : Prop := ∀ (n : Int), (wK x.a a.k).has n = (wK x.a a.k).has n
abbrev pT (x : GBf) (a : KOM) : Prop := ∀ (n : Int), (wK x.a a.k).st n = (wK x.a a.k).st n
abbrev Ke (x : GBf) (a : KOM) : Bk := Bk.mk (Ah x a) (TO x a) (wK x.a a.k).has (wK x.a a.k).st
abbrev AKV (x : GBf) (a : KOM) (n : Int) : List Ln := AK (Ke x a) n
abbrev xL (x : GBf) (a : KOM) (n : Int) : Nat := (AKV x a n).length
abbrev Nd (x : GBf) (a : KOM) (n : Int) (i : Nat) : Ln := gD (AKV x a n) i
abbrev APW (x : GBf) (a : KOM) (n : Int) (i : Nat) : Int := (Nd x a n i).a0
abbrev AQZ (x : GBf) (a : KOM) (n : Int) (i : Nat) : Int := (Nd x a n i).a1
abbrev AUV (x : GBf) (a : KOM) (n : Int) (i : Nat) : Int := (Nd x a n i).b0
abbrev ALU (x : GBf) (a : KOM) (n : Int) (i : Nat) : Int := (Nd x a n i).b1
abbrev AMC (x : GBf) (a : KOM) : Prop := ∀ (n : Int), xL x a n = (AK (wK x.a a.k) n).length /\ ∀ (i : Nat), i < xL x a n -> APW x a n i = Ko x a n i /\ AQZ x a n i = Kn x a n i /\
 AUV x a n i = Ps x a n i /\ ALU x a n i = Lr x a n i
abbrev AYE (x : GBf) (a : KOM) : Prop := (wK x.a a.k).g.length = Md x a
abbrev ARJ (x : GBf) (a : KOM) : Prop := ∀ (i : Nat), Km i x a -> TX x a i = AVG x a i /\ US x a i = APG x a i /\ TB x a i = AMB x a i
abbrev AZZ (x : GBf) (a : KOM) : Prop := (wK x.a a.k).b.length = YD x a
abbrev AWE (x : GBf) (a : KOM) : Prop := ∀ (i : Nat), Lf i x a -> PV x a i = AZY x a i
abbrev pH (x : GBf) (a : KOM) : Prop := Md x a <= (24 : Nat) /\ (∀ (x_1 : Gau), List.Mem x_1 (Ah x a) -> (0 : Int) <= x_1.st /\ x_1.st <= (2000 : Int) /\ (0 : Int) <= x_1.lo /\ x_1.lo <= x_1.hi /\ x_1.hi <= (200000
 : Int)) /\ YD x a <= (24 : Nat) /\ List.Pairwise (λ (x1 x2 : Int) => x1 < x2) (TO x a) /\ ∀ (x_1 : Int), List.Mem x_1 (TO x a) -> (1 : Int) <= x_1 /\ x_1 <= (2000 : Int)
abbrev AQJ (a : KOM) : Prop := (0 : Int) <= (↑a.k : Int)
abbrev API (a : KOM) (x : GBf) : Prop := (↑a.k : Int) <= (↑(YD x a) : Int)
abbrev SY (x : GBf) (a : KOM) : Int := (AR (Ke x a) (↑a.k : Int)).lo
abbrev LJ (x : GBf) (a : KOM) : Bk := CF (Ke x a) (↑a.k : Int)
abbrev AOC (x : GBf) (a : KOM) : List Gau := (LJ x a).g
abbrev wF (x : GBf) (a : KOM) (i : Nat) : Gau := gD (AOC x a) i
abbrev AQM (x : GBf) (a : KOM) : List Int := (LJ x a).b
abbrev oC (x : GBf) (a : KOM) (n : Int) : Bool := (LJ x a).has n
abbrev ARR (x : GBf) (a : KOM) : Prop := ∀ (n : Int), oC x a n = oC x a n
abbrev wA (x : GBf) (a : KOM) (n : Int) : Int := (LJ x a).st n
abbrev ALV (x : GBf) (a : KOM) : Prop := ∀ (n : Int), wA x a n = wA x a n
abbrev APA (x : GBf) (a : KOM) : Bk := Bk.mk (Ah x a) (TO x a) (LJ x a).has (LJ x a).st
abbrev AQE (x : GBf) (a : KOM) (n : Int) : List Ln := AK (APA x a) n
abbrev qH (x : GBf) (a : KOM) (n : Int) : Nat := (AQE x a n).length
abbrev AOM (x : GBf) (a : KOM) (n : Int) : List Ln := AK (LJ x a) n
abbrev Od (x : GBf) (a : KOM) (n : Int) : Nat := (AOM x a n).length
abbrev La (x : GBf) (a : KOM) (n : Int) (i : Nat) : Ln := gD (AQE x a n) i
abbrev ALS (x : GBf) (a : KOM) (n : Int) (i : Nat) : Int := (La x a n i).a0
abbrev Nq (x : GBf) (a : KOM) (n : Int) (i : Nat) : Ln := gD (AOM x a n) i
abbrev vF (x : GBf) (a : KOM) (n : Int) (i : Nat) : Int := (Nq x a n i).a0
abbrev AWJ (x : GBf) (a : KOM) (n : Int) (i : Nat) : Int := (La x a n i).a1
abbrev rU (x : GBf) (a : KOM) (n : Int) (i : Nat) : Int := (Nq x a n i).a1
abbrev ATQ (x : GBf) (a : KOM) (n : Int) (i : Nat) : Int := (La x a n i).b0
abbrev pV (x : GBf) (a : KOM) (n : Int) (i : Nat) : Int := (Nq x a n i).b0
abbrev AYD (x : GBf) (a : KOM) (n : Int) (i : Nat) : Int := (La x a n i).b1
abbrev pL (x : GBf) (a : KOM) (n : Int) (i : Nat) : Int := (Nq x a n i).b1
abbrev AYI : Prop := (1 : Int) = (1 : Int)
abbrev AKZ (a : KOM) (x : GBf) : Prop := sQ a /\ sV x a /\ tW x a /\ oX x a /\ pX x a /\ JH /\ ARR x a /\ ALV x a /\ (∀ (n : Int), qH x a n = Od x a n /\ ∀ (i : Nat),
 i < qH x a n -> ALS x a n i = vF x a n i /\ AWJ x a n i = rU x a n i /\ ATQ x a n i = pV x a n i /\ AYD x a n i = pL x a n i) /\ x.f = x.f /\ AYI /\ AYE x a /\ ARJ
 x a /\ AZZ x a /\ AWE x a /\ JH /\ ARR x a /\ ALV x a /\ (∀ (n : Int), Od x a n = qH x a n /\ ∀ (i : Nat), i < Od x a n -> vF x a n i = ALS x a n i /\ rU x a n i =
 AWJ x a n i /\ pV x a n i = ATQ x a n i /\ pL x a n i = AYD x a n i) /\ x.f = x.f /\ AYI /\ pH x a /\ AQJ a /\ API a x /\ (LJ x a).has (↑a.k : Int) = true
abbrev AKP (x : GBf) (a : KOM) : UpI := UpI.mk (APA x a) (↑a.k : Int) (Rt.mk x.f (1 : Int))
abbrev APM (x : GBf) (a : KOM) : Int := IntKind.i64.wrap (upM eT (AKP x a) + (1 : Int))
abbrev APP (x : GBf) (a : KOM) : Int := upM Ym (AKP x a)
abbrev tU (x : GBf) : Prop := Up x = Up x
abbrev xG (a : KOM) (a1 : KOM) : Prop := (↑a.k : Int) = IntKind.i64.wrap ((↑a1.k : Int) + (1 : Int))
abbrev tH (x : GBf) (a : KOM) (a1 : KOM) : Prop := (wK x.a a.k).g.length = (wK x.a a1.k).g.length
abbrev uN (x : GBf) (a : KOM) (a1 : KOM) : Prop := ∀ (i : Nat), Km i x a -> TX x a i = TX x a1 i /\ US x a i = US x a1 i /\ TB x a i = TB x a1 i
abbrev wW (x : GBf) (a : KOM) (a1 : KOM) : Prop := (wK x.a a.k).b.length = (wK x.a a1.k).b.length
abbrev Rs (x : GBf) (a : KOM) (a1 : KOM) : Prop := ∀ (i : Nat), Lf i x a -> PV x a i = PV x a1 i
abbrev Yg (x : GBf) (a : KOM) (a1 : KOM) : Prop := ∀ (n : Int), (wK x.a a.k).has n = oC x a1 n
abbrev Xl (x : GBf) (a : KOM) (a1 : KOM) : Prop := ∀ (n : Int), (wK x.a a.k).st n = wA x a1 n
abbrev Xd (x : GBf) (a : KOM) (a1 : KOM) : Prop := ∀ (n : Int), (AK (wK x.a a.k) n).length = Od x a1 n /\ ∀ (i : Nat), uM i x a n -> Ko x a n i = vF x a1 n i /\ Kn x a n i = rU x
 a1 n i /\ Ps x a n i = pV x a1 n i /\ Lr x a n i = pL x a1 n i
abbrev Su (a : KOM) (x : GBf) (a1 : KOM) : Prop := qM a x /\ tG x a < tG x a1
abbrev H7 (a : KOM) (x : GBf) (a1 : KOM) : Prop := a.o.hi = APP x a1
theorem CRN (x : GBf) : (COE x) = ((AJA x = x.a.g.length /\ (∀ (i : Nat), i < AJA x -> (AHQ x i).st = (gD x.a.g i).st /\ (AHQ x i).lo = (gD x.a.g i).lo /\ (AHQ x i).hi = (gD x.a.g i).hi) /\ AIR x
 = x.a.b.length /\ (∀ (i : Nat), i < AIR x -> gD (AHF x) i = gD x.a.b i) /\ AJA x < (4611686018427387904 : Nat) /\ AIR x < (4611686018427387904 : Nat) /\ AH (BIX x) = (0 : Int)) /\ bif bif (0 : Int) == (0
 : Int) then !BY x.f (0 : Int) (200000 : Int) else false then AJT x /\ AJF x /\ (CA x).snd = (4 : Int) else (∃ (a : KOM), (x.f = x.f /\ a.m = false /\ Up x = IntKind.i64.wrap (Up x) /\ (↑a.k : Int) = (0 :
 Int) /\ (wK x.a a.k).g.length = (AYR x).length /\ (∀ (i : Nat), Km i x a -> TX x a i = (tE x i).st /\ US x a i = (tE x i).lo /\ TB x a i = (tE x i).hi) /\ (wK x.a a.k).b.length =
 (ALC x).length /\ (∀ (i : Nat), Lf i x a -> PV x a i = gD (ALC x) i) /\ JH /\ (∀ (n : Int), (wK x.a a.k).has n = false) /\ (∀ (n : Int), (wK x.a a.k).st n = (oR x).st n) /\ (∀ (n : Int), (AK
 (wK x.a a.k) n).length = (AUH x n).length /\ ∀ (i : Nat), uM i x a n -> Ko x a n i = (On x n i).a0 /\ Kn x a n i = (On x n i).a1 /\ Ps x a n i = (On x n i).b0 /\ Lr x a n i
 = (On x n i).b1) /\ LE /\ LE /\ a.o.lo = (0 : Int) /\ a.o.hi = (0 : Int)) /\ qM a x) /\ ∀ (a : KOM), qM a x -> bif decide ((↑a.k : Int) < Up x) then (sQ a /\ sV x a /\ tW x a /\
 oX x a /\ pX x a /\ JH /\ pG x a /\ pT x a /\ AMC x a /\ AYE x a /\ ARJ x a /\ AZZ x a /\ AWE x a /\ JH /\ pG x a /\ pT x a /\ (∀ (n : Int), (AK (wK x.a a.k)
 n).length = xL x a n /\ ∀ (i : Nat), uM i x a n -> Ko x a n i = APW x a n i /\ Kn x a n i = AQZ x a n i /\ Ps x a n i = AUV x a n i /\ Lr x a n i = ALU x a n i) /\
 (pH x a /\ AQJ a /\ API a x) /\ sQ a /\ SY x a = SY x a /\ sV x a /\ tW x a /\ oX x a /\ pX x a /\ JH /\ pG x a /\ pT x a /\ AMC x a /\ (wK x.a
 a.k).g.length = (AOC x a).length /\ (∀ (i : Nat), Km i x a -> TX x a i = (wF x a i).st /\ US x a i = (wF x a i).lo /\ TB x a i = (wF x a i).hi) /\ (wK x.a a.k).b.length =
 (AQM x a).length /\ (∀ (i : Nat), Lf i x a -> PV x a i = gD (AQM x a) i) /\ pH x a /\ (0 : Int) <= SY x a /\ SY x a <= (2000 : Int)) /\ bif (↑(CR (sB (BkS.mk (Ke x a) (↑a.k : Int)
 (SY x a))) (SY x a)).length : Int) == (0 : Int) then AJT x /\ AJF x /\ (CA x).snd = (6 : Int) else AKZ a x /\ AKZ a x /\ bif decide (APM x a > APP x a) then ∃ (a_2 : KOM), (x.f = x.f
 /\ a_2.m = a.m /\ tU x /\ xG a_2 a /\ tH x a_2 a /\ uN x a_2 a /\ wW x a_2 a /\ Rs x a_2 a /\ JH /\ Yg x a_2 a /\ Xl x a_2 a /\ Xd x a_2 a /\ LE /\ LE /\
 a_2.o.lo = a.o.lo /\ a_2.o.hi = a.o.hi) /\ Su a_2 x a else bif !a.m then ∃ (a_2 : KOM), (x.f = x.f /\ a_2.m = true /\ tU x /\ xG a_2 a /\ tH x a_2 a /\ uN x a_2 a /\ wW x a_2 a /\ Rs x
 a_2 a /\ JH /\ Yg x a_2 a /\ Xl x a_2 a /\ Xd x a_2 a /\ LE /\ LE /\ a_2.o.lo = APM x a /\ H7 a_2 x a) /\ Su a_2 x a else ∃ (a_2 : KOM), (x.f = x.f /\ a_2.m = a.m /\
 tU x /\ xG a_2 a /\ tH x a_2 a /\ uN x a_2 a /\ wW x a_2 a /\ Rs x a_2 a /\ JH /\ Yg x a_2 a /\ Xl x a_2 a /\ Xd x a_2 a /\ LE /\ LE /\ a_2.o.lo = a.o.lo /\
 H7 a_2 x a) /\ Su a_2 x a else bif !a.m then AJT x /\ AJF x /\ (CA x).snd = (5 : Int) else (CA x).fst.lo = a.o.lo /\ (CA x).fst.hi = a.o.hi /\ (CA x).snd = (0 : Int)) := by kernel_rfl
def COH (x : GBf) : Prop := AN Try.prog CQI Mc (AF Mc) (xGBf x) (AC []) (C_Stages.val x) [] [] []
theorem CRA (x : GBf) : (COH x) = (((AE x.a.g.length λ (i : Nat) => gD x.a.g i).length = x.a.g.length /\ (∀ (i : Nat), i < (AE x.a.g.length λ (i : Nat) => gD x.a.g i).length -> (gD (AE x.a.g.length λ (i :
 Nat) => gD x.a.g i) i).st = (gD x.a.g i).st /\ (gD (AE x.a.g.length λ (i : Nat) => gD x.a.g i) i).lo = (gD x.a.g i).lo /\ (gD (AE x.a.g.length λ (i : Nat) => gD x.a.g i) i).hi = (gD x.a.g i).hi) /\ (AE x.a.b.length
 λ (i : Nat) => gD x.a.b i).length = x.a.b.length /\ (∀ (i : Nat), i < (AE x.a.b.length λ (i : Nat) => gD x.a.b i).length -> gD (AE x.a.b.length λ (i : Nat) => gD x.a.b i) i = gD x.a.b i) /\ (AE x.a.g.length λ (i
 : Nat) => gD x.a.g i).length < 4611686018427387904 /\ (AE x.a.b.length λ (i : Nat) => gD x.a.b i).length < 4611686018427387904 /\ AH (GB.mk (AE x.a.g.length λ (i : Nat) => gD x.a.g i) (AE x.a.b.length λ (i :
 Nat) => gD x.a.b i)) ≠ 0) /\ bif bif AH (GB.mk (AE x.a.g.length λ (i : Nat) => gD x.a.g i) (AE x.a.b.length λ (i : Nat) => gD x.a.b i)) == 0 then !BY x.f 0 200000 else false then ((CA x).fst.lo = 0 /\ (CA
 x).fst.hi = 0 /\ (CA x).snd = 4) /\ True else (bif AH (GB.mk (AE x.a.g.length λ (i : Nat) => gD x.a.g i) (AE x.a.b.length λ (i : Nat) => gD x.a.b i)) != 0 then (CA x).fst.lo = 0 /\ (CA x).fst.hi = 0 /\ (CA
 x).snd = AH (GB.mk (AE x.a.g.length λ (i : Nat) => gD x.a.g i) (AE x.a.b.length λ (i : Nat) => gD x.a.b i)) else False) /\ True) := by kernel_rfl
theorem BGY {pr : Int -> Bool} : ∀ (n : Nat) (lo hi : Int), lo <= hi -> lo <= wB pr n lo hi /\ wB pr n lo hi <= hi
 | 0, lo, hi, h => ⟨Int.le_refl _, h⟩
 | n + 1, lo, hi, h => by
  unfold wB
  by_cases hl : lo < hi
  ·obtain ⟨h3, h4⟩ := aB hl
   rw [decide_eq_true hl]
   cases pr (lo + (hi - lo + 1).tdiv 2)
   ·have := BGY (pr := pr) n lo (lo + (hi - lo + 1).tdiv 2 - 1) (by omega); exact ⟨this.1, by have := this.2; show wB _ _ _ _ <= _; omega⟩
   ·have := BGY (pr := pr) n (lo + (hi - lo + 1).tdiv 2) hi h4; exact ⟨by have := this.1; show _ <= wB _ _ _ _; omega, this.2⟩
  ·rw [decide_eq_false hl]; exact ⟨Int.le_refl _, h⟩
theorem CHQ {v : BnF -> Bool} {a : UpI} (h : GZ a.w.g a.w.b) (h1 : 0 <= a.k) (h2 : a.k <= a.w.b.length) : (AR a.w a.k).lo - 1 <= upM v a /\ upM v a <= (AR a.w a.k).hi /\ -1 <= upM v a /\ upM v a <= 2000 := by
 obtain ⟨s1, s2, s3, _⟩ := JA h h1 h2
 obtain ⟨i1, i2⟩ := BGY (pr := upP v a) 3000 ((AR a.w a.k).lo - 1) (AR a.w a.k).hi (by omega)
 unfold upM; omega
theorem CUO (x : GBf) (h : preB x.a) (hE : AH x.a = 0) : COE x := by
 rw [CRN]; delta AJR AJA AHQ AHF AIR BIX AJT AJF Up oR AYR Km Px TX tE US TB ALC Lf PV ALT JH AUH uM Jw Ko On Kn Ps Lr LE AOL tG qM sQ Ah Md sV sC AVG APG AMB tW TO YD oX AZY pX pG pT Ke AKV xL Nd APW AQZ AUV ALU AMC AYE ARJ AZZ AWE pH AQJ API SY LJ AOC wF AQM oC ARR wA ALV APA AQE qH AOM Od La ALS Nq vF AWJ rU ATQ pV AYD pL AYI AKZ AKP APM APP tU xG tH uN wW Rs Yg Xl Xd Su H7; simp only [CC, eq_self, implies_true, forall_const, JG, JP, Iz, Iy, JT, if_true]
 have hb : GZ x.a.g x.a.b := HP hE
 have hl24 : x.a.b.length <= 24 := hb.2.2.1
 have e0 : AH x.a == 0 := by rw [hE]; rfl
 refine ⟨⟨h.1, h.2, hE⟩, λ hf => ?_, λ hf => ⟨⟨⟨0, default, false⟩, ⟨rfl, (EV (by omega) (by omega)).symm, rfl, rfl, λ _ _ => ⟨rfl, rfl, rfl⟩, rfl, λ _ _ => rfl, λ _ => rfl, λ _ => rfl, λ _ => ⟨rfl, λ _ _ => ⟨rfl, rfl, rfl, rfl⟩⟩, rfl, rfl⟩, Nat.zero_le _, ?_⟩, λ y ⟨hy1, hy2⟩ => ⟨λ hlt => ?_, λ hge => ?_⟩⟩⟩
 ·have e : CA x = (default, 4) := by
   have hf : (!inF x) = true := hf
   unfold CA; rw [e0, show inF x = false by simpa using hf]; rfl
  rw [e]; exact ⟨rfl, rfl, rfl⟩
 ·have hf : (!inF x) = false := hf
  show CA x = _
  unfold CA; rw [e0, show inF x = true by simpa using hf]; rfl
 ·have hlt : y.k <= x.a.b.length := by omega
  have hs := JA (w := wK x.a y.k) (k := y.k) hb (by omega) (by show (y.k : Int) <= (x.a.b.length : Nat); omega)
  have hkk : (0 : Int) <= (y.k : Int) /\ (y.k : Int) <= ((wK x.a y.k).b.length : Nat) := ⟨by omega, by show (y.k : Int) <= (x.a.b.length : Nat); omega⟩
  have hup : (CF (wK x.a y.k) y.k).has y.k = true := by show GN _ _ _ = true; simp [GN]
  obtain ⟨n, hn⟩ : ∃ n, x.a.b.length + 1 - y.k = n + 1 := ⟨x.a.b.length - y.k, by omega⟩
  have hn2 : x.a.b.length + 1 - (y.k + 1) = n := by omega
  have hn3 : x.a.b.length + 1 - (y.k + 1) < x.a.b.length + 1 - y.k := by omega
  have key := hy2
  rw [hn] at key; unfold LF at key
  have u1 := CHQ (v := eT) (a := ⟨CF (wK x.a y.k) y.k, y.k, ⟨x.f, 1⟩⟩) hb hkk.1 hkk.2
  have e1 : IntKind.i64.wrap (upM eT ⟨CF (wK x.a y.k) y.k, y.k, ⟨x.f, 1⟩⟩ + 1) = Yn x y.k := EV (by omega) (by omega)
  have e2 : upM Ym ⟨CF (wK x.a y.k) y.k, y.k, ⟨x.f, 1⟩⟩ = Yo x y.k := rfl
  rw [e1, e2]
  have ek : ((y.k + 1 : Nat) : Int) = IntKind.i64.wrap ((y.k : Int) + 1) := by rw [EV (by omega) (by omega)]; rfl
  refine ⟨⟨⟨hb, hkk⟩, hb, hs.1, by omega⟩, λ hc => ?_, λ hc => ⟨⟨hb, hkk.1, hkk.2, hup⟩, ⟨hb, hkk.1, hkk.2, hup⟩, λ hg => ?_, λ hg => ⟨λ hm => ?_, λ hm => ?_⟩⟩⟩
  ·have hc : ((lnK x.a y.k).length : Int) == 0 := hc
   rw [decide_eq_true (show (lnK x.a y.k).length = 0 by have := eq_of_beq hc; omega)] at key
   rw [key]; exact ⟨rfl, rfl, rfl⟩
  all_goals
   have hc : (((lnK x.a y.k).length : Int) == 0) = false := hc
   rw [decide_eq_false (show ¬(lnK x.a y.k).length = 0 by intro h0; rw [h0] at hc; cases hc)] at key
  ·rw [decide_eq_true (show Yo x y.k < Yn x y.k from hg)] at key
   exact ⟨⟨y.k + 1, y.o, y.m⟩, ⟨rfl, ek, rfl, λ _ _ => ⟨rfl, rfl, rfl⟩, rfl, λ _ _ => rfl, λ _ => rfl, λ _ => rfl, λ _ => ⟨rfl, λ _ _ => ⟨rfl, rfl, rfl, rfl⟩⟩, rfl, rfl⟩, ⟨by show y.k + 1 <= _; omega, by show CA x = LF x (x.a.b.length + 1 - (y.k + 1)) _ _ _; rw [hn2]; exact key⟩, hn3⟩
  ·rw [decide_eq_false (show ¬Yo x y.k < Yn x y.k from hg), hm] at key
   exact ⟨⟨y.k + 1, ⟨Yn x y.k, Yo x y.k⟩, true⟩, ⟨rfl, ek, rfl, λ _ _ => ⟨rfl, rfl, rfl⟩, rfl, λ _ _ => rfl, λ _ => rfl, λ _ => rfl, λ _ => ⟨rfl, λ _ _ => ⟨rfl, rfl, rfl, rfl⟩⟩, rfl, rfl⟩, ⟨by show y.k + 1 <= _; omega, by show CA x = LF x (x.a.b.length + 1 - (y.k + 1)) _ _ _; rw [hn2]; exact key⟩, hn3⟩
  ·rw [decide_eq_false (show ¬Yo x y.k < Yn x y.k from hg), hm] at key
   exact ⟨⟨y.k + 1, ⟨y.o.lo, Yo x y.k⟩, true⟩, ⟨hm.symm, ek, rfl, λ _ _ => ⟨rfl, rfl, rfl⟩, rfl, λ _ _ => rfl, λ _ => rfl, λ _ => rfl, λ _ => ⟨rfl, λ _ _ => ⟨rfl, rfl, rfl, rfl⟩⟩, rfl, rfl⟩, ⟨by show y.k + 1 <= _; omega, by show CA x = LF x (x.a.b.length + 1 - (y.k + 1)) _ _ _; rw [hn2]; exact key⟩, hn3⟩
 ·have hk : x.a.b.length + 1 - y.k = 0 := by omega
  rw [hk] at hy2; unfold LF at hy2
  refine ⟨λ hm => ?_, λ hm => ?_⟩ <;> rw [hm] at hy2 <;> rw [hy2] <;> exact ⟨rfl, rfl, rfl⟩
theorem CVB (x : GBf) (h : preB x.a) (hE : AH x.a ≠ 0) : COH x := by
 rw [CRA]; simp only [CC, eq_self, implies_true, forall_const, JG, JP, Iz, Iy, JT, if_true]
 have hE : AH ⟨x.a.g, x.a.b⟩ ≠ 0 := hE
 have e0 : (AH ⟨x.a.g, x.a.b⟩ == 0) = false := by simpa using hE
 rw [e0]
 refine ⟨⟨h.1, h.2, hE⟩, λ hc => (by cases hc), λ _ => ⟨λ _ => ?_, λ hc => ?_⟩⟩
 ·have e : CA x = (default, AH x.a) := by unfold CA; rw [show (AH x.a == 0) = false from e0]; rfl
  rw [e]; exact ⟨rfl, rfl, rfl⟩
 ·exact hE (by simpa using hc)
theorem BBC : AG Try.prog qE (C_Stages.spec dGBf) := Ctr.spec_ok (C := C_Stages) (λ (x : GBf) h => by
 have h : preB x.a := (show preB x.a /\ True from h).1
 by_cases hE : AH x.a = 0
 ·exact KZ (A := CPI x) (L := []) (keep := []) (ren := []) (fz := []) BCL (by kernel_rfl) (AB xA (AB Bv (AB Yd (AB Q8 (AB (Ha CFS CIE) AD))))) (CUO x h hE)
 ·exact KZ (A := CQI) (L := []) (keep := []) (ren := []) (fz := []) BCL (by kernel_rfl) (AB oN (AB Bv (AB Yd (AB Q8 (AB (Ha CFS CIE) AD))))) (CVB x h hE)) _
end Go.Bal
