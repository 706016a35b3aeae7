/- Package rating: Stages, Dry. -/
import Derived.Test.YtoihhodbkimedaaGreatRatM
set_option linter.unusedVariables false
set_option linter.unusedSimpArgs false
namespace Go.Bal
open Go Go.Sym Go.Proofs
structure GBf where
 a : GB
 f : Int
def dGBf : List AVal -> Heap -> Option (GBf × List (Nat × Nat) × List Nat)
 | [x, y, .d t], H => match kX x H, Re y H with
  | some (l, f), some (m, e) => some (⟨⟨l, m⟩, CT t⟩, [], f ++ e)
  | _, _ => none
 | _, _ => none
def xGBf (x : GBf) : List AVal := [.d (BE x.a.g), .d (BD x.a.b), .int x.f]
def hsK : Nat -> (Int -> Bool) × (Int -> Int)
 | 0 => (λ _ => false, λ _ => 0)
 | k + 1 => (FX (hsK k).1 k, Ra (hsK k).1 (hsK k).2 k)
def wK (a : GB) (k : Nat) : Bk := ⟨a.g, a.b, (hsK k).1, (hsK k).2⟩
def stF (x : GBf) (k : Nat) : Int := upM mH ⟨BK x.a, k, ⟨x.f, 1⟩⟩ + 1
def stL (x : GBf) (k : Nat) : Int := upM sQ ⟨BK x.a, k, ⟨x.f, 1⟩⟩
def lnK (a : GB) (k : Nat) : List Ln := JO (NW (BK a) k) (AP (BK a) k).lo
def stgS (x : GBf) : Nat -> Nat -> Span -> Bool -> Span × Int
 | 0, _, o, m => bif m then (o, 0) else (default, 5)
 | n + 1, k, o, m => bif decide ((lnK x.a k).length = 0) then (default, 6) else bif decide (stL x k < stF x k) then stgS x n (k + 1) o m else stgS x n (k + 1) ⟨bif m then o.lo else stF x k, stL x k⟩ true
def preB (a : GB) : Prop := a.g.length < 4611686018427387904 /\ a.b.length < 4611686018427387904
def inF (x : GBf) : Bool := CJ x.f 0 200000
def KY (x : GBf) : Span × Int := bif AX x.a == 0 then (bif inF x then stgS x (x.a.b.length + 1) 0 default false else (default, 4)) else (default, AX x.a)
structure KOM where
 k : Nat
 o : Span
 m : Bool
 deriving Inhabited
def bkH (w : Bk) (p q : Nat) : List (Nat × HCell) := [(p, .live (bkB w q)), (q, .live (bkM w))]
def sg8 (x : GBf) : Shape := { α := KOM, dflt := default, T := λ y => ⟨[(2, .int x.f), (6, .bptr 1000 0), (8, .bptr 2032 0), (10, .bptr 7016 0), (11, .bool y.m), (36, .int (x.a.b.length + 1)), (37, .int y.k)], bkH (wK x.a y.k) 2032 2033 ++ [(1000, .live (.box [.int 0, .int 0])), (7016, .live (.box [.int y.o.lo, .int y.o.hi]))]⟩, inv := λ y => y.k <= x.a.b.length + 1 /\ KY x = stgS x (x.a.b.length + 1 - y.k) y.k y.o y.m, meas := λ y => x.a.b.length + 1 - y.k }
def C_Stages : Ctr := { α := GBf, xs := xGBf, L := λ _ => [], val := λ x => .tup [.d (AKC (KY x).1), .int (KY x).2], keep := λ _ => [], pre := λ x => [preB x.a /\ True] }
def G_sg (c : Sym.Spec) : List (FuncId × Sym.Spec) := [(QW, c), (Qw, Uh), (AAP, C_span.spec dBkI), (eS, C_lns.spec dBkS), (cT, orS ((jS mH DX).spec (dUpI DX)) ((jS sQ DY).spec (dUpI DY)))]
def BSA (x : GBf) : Ann := { ann 75 (G_sg (C_open.spec dGB)) with loops := λ id => if id = 8 then some [sg8 x] else none }
def BST : Ann := { ann 75 (G_sg (C_openX.spec dGB)) with cut := λ id => if id = 6 then some [] else none }
def BRZ (x : GBf) : Prop := AO Try.prog (BSA x) Ir (AF Ir) (xGBf x) (AC []) (C_Stages.val x) [] [] []
abbrev K0 (x : GBf) : List Gau := AD x.a.g.length λ (i : Nat) => gD x.a.g i
abbrev K8 (x : GBf) : Nat := (K0 x).length
abbrev H7 (x : GBf) (i : Nat) : Gau := gD (K0 x) i
abbrev N3 (x : GBf) : List Int := AD x.a.b.length λ (i : Nat) => gD x.a.b i
abbrev F8 (x : GBf) : Nat := (N3 x).length
abbrev AOF (x : GBf) : GB := GB.mk (K0 x) (N3 x)
abbrev M4 (x : GBf) : Prop := (KY x).fst.lo = (0 : Int)
abbrev G1 (x : GBf) : Prop := (KY x).fst.hi = (0 : Int)
abbrev Lu (x : GBf) : Int := (↑x.a.b.length : Int) + (1 : Int)
abbrev jX (x : GBf) : Bk := BK (AOF x)
abbrev U0 (x : GBf) : List Gau := (jX x).g
abbrev Gl (i : Nat) (x : GBf) (a : KOM) : Prop := i < (wK x.a a.k).g.length
abbrev Er (x : GBf) (a : KOM) (i : Nat) : Gau := gD (wK x.a a.k).g i
abbrev QS (x : GBf) (a : KOM) (i : Nat) : Int := (Er x a i).st
abbrev fV (x : GBf) (i : Nat) : Gau := gD (U0 x) i
abbrev PN (x : GBf) (a : KOM) (i : Nat) : Int := (Er x a i).lo
abbrev QH (x : GBf) (a : KOM) (i : Nat) : Int := (Er x a i).hi
abbrev V5 (x : GBf) : List Int := (jX x).b
abbrev Eo (i : Nat) (x : GBf) (a : KOM) : Prop := i < (wK x.a a.k).b.length
abbrev NZ (x : GBf) (a : KOM) (i : Nat) : Int := gD (wK x.a a.k).b i
abbrev AAX : Value := Value.slice none (0 : Nat) (0 : Nat)
abbrev HP : Prop := AAX = AAX
abbrev T4 (x : GBf) (n : Int) : List Ln := AI (jX x) n
abbrev jO (i : Nat) (x : GBf) (a : KOM) (n : Int) : Prop := i < (AI (wK x.a a.k) n).length
abbrev Jb (x : GBf) (a : KOM) (n : Int) (i : Nat) : Ln := gD (AI (wK x.a a.k) n) i
abbrev Kc (x : GBf) (a : KOM) (n : Int) (i : Nat) : Int := (Jb x a n i).a0
abbrev Ft (x : GBf) (n : Int) (i : Nat) : Ln := gD (T4 x n) i
abbrev Fi (x : GBf) (a : KOM) (n : Int) (i : Nat) : Int := (Jb x a n i).a1
abbrev Js (x : GBf) (a : KOM) (n : Int) (i : Nat) : Int := (Jb x a n i).b0
abbrev Iv (x : GBf) (a : KOM) (n : Int) (i : Nat) : Int := (Jb x a n i).b1
abbrev JR : Prop := Int.ofNat (0 : Nat) = Int.ofNat (0 : Nat)
abbrev R4 (x : GBf) : Nat := x.a.b.length + (1 : Nat)
abbrev eW (x : GBf) (a : KOM) : Nat := R4 x - a.k
abbrev fM (a : KOM) (x : GBf) : Prop := a.k <= R4 x /\ KY x = stgS x (eW x a) a.k a.o a.m
abbrev lJ (a : KOM) : Prop := (↑a.k : Int) = (↑a.k : Int)
abbrev VA (x : GBf) (a : KOM) : List Gau := AD (wK x.a a.k).g.length λ (i : Nat) => Er x a i
abbrev Hg (x : GBf) (a : KOM) : Nat := (VA x a).length
abbrev eT (x : GBf) (a : KOM) : Prop := Hg x a = (wK x.a a.k).g.length
abbrev mD (x : GBf) (a : KOM) (i : Nat) : Gau := gD (VA x a) i
abbrev ACO (x : GBf) (a : KOM) (i : Nat) : Int := (mD x a i).st
abbrev ADI (x : GBf) (a : KOM) (i : Nat) : Int := (mD x a i).lo
abbrev ACB (x : GBf) (a : KOM) (i : Nat) : Int := (mD x a i).hi
abbrev gY (x : GBf) (a : KOM) : Prop := ∀ (i : Nat), i < Hg x a -> ACO x a i = QS x a i /\ ADI x a i = PN x a i /\ ACB x a i = QH x a i
abbrev RS (x : GBf) (a : KOM) : List Int := AD (wK x.a a.k).b.length λ (i : Nat) => NZ x a i
abbrev XY (x : GBf) (a : KOM) : Nat := (RS x a).length
abbrev iP (x : GBf) (a : KOM) : Prop := XY x a = (wK x.a a.k).b.length
abbrev AEW (x : GBf) (a : KOM) (i : Nat) : Int := gD (RS x a) i
abbrev hU (x : GBf) (a : KOM) : Prop := ∀ (i : Nat), i < XY x a -> AEW x a i = NZ x a i
abbrev lY (x : GBf) (a : KOM) : Prop := ∀ (n : Int), (wK x.a a.k).has n = (wK x.a a.k).has n
abbrev iT (x : GBf) (a : KOM) : Prop := ∀ (n : Int), (wK x.a a.k).st n = (wK x.a a.k).st n
abbrev Gv (x : GBf) (a : KOM) : Bk := Bk.mk (VA x a) (RS x a) (wK x.a a.k).has (wK x.a a.k).st
abbrev ADB (x : GBf) (a : KOM) (n : Int) : List Ln := AI (Gv x a) n
abbrev fH (x : GBf) (a : KOM) (n : Int) : Nat := (ADB x a n).length
abbrev Ha (x : GBf) (a : KOM) (n : Int) (i : Nat) : Ln := gD (ADB x a n) i
abbrev O8 (x : GBf) (a : KOM) (n : Int) (i : Nat) : Int := (Ha x a n i).a0
abbrev ADP (x : GBf) (a : KOM) (n : Int) (i : Nat) : Int := (Ha x a n i).a1
abbrev AIM (x : GBf) (a : KOM) (n : Int) (i : Nat) : Int := (Ha x a n i).b0
abbrev O0 (x : GBf) (a : KOM) (n : Int) (i : Nat) : Int := (Ha x a n i).b1
abbrev AAU (x : GBf) (a : KOM) : Prop := ∀ (n : Int), fH x a n = (AI (wK x.a a.k) n).length /\ ∀ (i : Nat), i < fH x a n -> O8 x a n i = Kc x a n i /\ ADP x a n i = Fi x a n i /\
 AIM x a n i = Js x a n i /\ O0 x a n i = Iv x a n i
abbrev ABT (x : GBf) (a : KOM) : Prop := (wK x.a a.k).g.length = Hg x a
abbrev ACP (x : GBf) (a : KOM) : Prop := ∀ (i : Nat), Gl i x a -> QS x a i = ACO x a i /\ PN x a i = ADI x a i /\ QH x a i = ACB x a i
abbrev AFK (x : GBf) (a : KOM) : Prop := (wK x.a a.k).b.length = XY x a
abbrev AED (x : GBf) (a : KOM) : Prop := ∀ (i : Nat), Eo i x a -> NZ x a i = AEW x a i
abbrev lQ (x : GBf) (a : KOM) : Prop := Hg x a <= (24 : Nat) /\ (∀ (x_1 : Gau), List.Mem x_1 (VA x a) -> (0 : Int) <= x_1.st /\ x_1.st <= (2000 : Int) /\ (0 : Int) <= x_1.lo /\ x_1.lo <= x_1.hi /\ x_1.hi <= (200000
 : Int)) /\ XY x a <= (24 : Nat) /\ List.Pairwise (λ (x1 x2 : Int) => x1 < x2) (RS x a) /\ ∀ (x_1 : Int), List.Mem x_1 (RS x a) -> (1 : Int) <= x_1 /\ x_1 <= (2000 : Int)
abbrev U2 (a : KOM) : Prop := (0 : Int) <= (↑a.k : Int)
abbrev U7 (a : KOM) (x : GBf) : Prop := (↑a.k : Int) <= (↑(XY x a) : Int)
abbrev SA (x : GBf) (a : KOM) : Int := (AP (Gv x a) (↑a.k : Int)).lo
abbrev JP (x : GBf) (a : KOM) : Bk := BY (Gv x a) (↑a.k : Int)
abbrev X6 (x : GBf) (a : KOM) : List Gau := (JP x a).g
abbrev fQ (x : GBf) (a : KOM) (i : Nat) : Gau := gD (X6 x a) i
abbrev P3 (x : GBf) (a : KOM) : List Int := (JP x a).b
abbrev lM (x : GBf) (a : KOM) (n : Int) : Bool := (JP x a).has n
abbrev AEX (x : GBf) (a : KOM) : Prop := ∀ (n : Int), lM x a n = lM x a n
abbrev fT (x : GBf) (a : KOM) (n : Int) : Int := (JP x a).st n
abbrev AFX (x : GBf) (a : KOM) : Prop := ∀ (n : Int), fT x a n = fT x a n
abbrev AAN (x : GBf) (a : KOM) : Bk := Bk.mk (VA x a) (RS x a) (JP x a).has (JP x a).st
abbrev AFL (x : GBf) (a : KOM) (n : Int) : List Ln := AI (AAN x a) n
abbrev lC (x : GBf) (a : KOM) (n : Int) : Nat := (AFL x a n).length
abbrev Y9 (x : GBf) (a : KOM) (n : Int) : List Ln := AI (JP x a) n
abbrev Fb (x : GBf) (a : KOM) (n : Int) : Nat := (Y9 x a n).length
abbrev Kf (x : GBf) (a : KOM) (n : Int) (i : Nat) : Ln := gD (AFL x a n) i
abbrev AAQ (x : GBf) (a : KOM) (n : Int) (i : Nat) : Int := (Kf x a n i).a0
abbrev Gx (x : GBf) (a : KOM) (n : Int) (i : Nat) : Ln := gD (Y9 x a n) i
abbrev lG (x : GBf) (a : KOM) (n : Int) (i : Nat) : Int := (Gx x a n i).a0
abbrev ACH (x : GBf) (a : KOM) (n : Int) (i : Nat) : Int := (Kf x a n i).a1
abbrev iS (x : GBf) (a : KOM) (n : Int) (i : Nat) : Int := (Gx x a n i).a1
abbrev ADM (x : GBf) (a : KOM) (n : Int) (i : Nat) : Int := (Kf x a n i).b0
abbrev jF (x : GBf) (a : KOM) (n : Int) (i : Nat) : Int := (Gx x a n i).b0
abbrev AFC (x : GBf) (a : KOM) (n : Int) (i : Nat) : Int := (Kf x a n i).b1
abbrev iR (x : GBf) (a : KOM) (n : Int) (i : Nat) : Int := (Gx x a n i).b1
abbrev AGA : Prop := (1 : Int) = (1 : Int)
abbrev R3 (a : KOM) (x : GBf) : Prop := lJ a /\ eT x a /\ gY x a /\ iP x a /\ hU x a /\ HP /\ AEX x a /\ AFX x a /\ (∀ (n : Int), lC x a n = Fb x a n /\ ∀ (i : Nat),
 i < lC x a n -> AAQ x a n i = lG x a n i /\ ACH x a n i = iS x a n i /\ ADM x a n i = jF x a n i /\ AFC x a n i = iR x a n i) /\ x.f = x.f /\ AGA /\ ABT x a /\ ACP
 x a /\ AFK x a /\ AED x a /\ HP /\ AEX x a /\ AFX x a /\ (∀ (n : Int), Fb x a n = lC x a n /\ ∀ (i : Nat), i < Fb x a n -> lG x a n i = AAQ x a n i /\ iS x a n i =
 ACH x a n i /\ jF x a n i = ADM x a n i /\ iR x a n i = AFC x a n i) /\ x.f = x.f /\ AGA /\ lQ x a /\ U2 a /\ U7 a x /\ (JP x a).has (↑a.k : Int) = true
abbrev ABZ (x : GBf) (a : KOM) : UpI := UpI.mk (AAN x a) (↑a.k : Int) (Rt.mk x.f (1 : Int))
abbrev AIF (x : GBf) (a : KOM) : Int := IntKind.i64.wrap (upM mH (ABZ x a) + (1 : Int))
abbrev AER (x : GBf) (a : KOM) : Int := upM sQ (ABZ x a)
abbrev eK (x : GBf) : Prop := Lu x = Lu x
abbrev eQ (a : KOM) (a1 : KOM) : Prop := (↑a.k : Int) = IntKind.i64.wrap ((↑a1.k : Int) + (1 : Int))
abbrev eJ (x : GBf) (a : KOM) (a1 : KOM) : Prop := (wK x.a a.k).g.length = (wK x.a a1.k).g.length
abbrev iO (x : GBf) (a : KOM) (a1 : KOM) : Prop := ∀ (i : Nat), Gl i x a -> QS x a i = QS x a1 i /\ PN x a i = PN x a1 i /\ QH x a i = QH x a1 i
abbrev lN (x : GBf) (a : KOM) (a1 : KOM) : Prop := (wK x.a a.k).b.length = (wK x.a a1.k).b.length
abbrev Nz (x : GBf) (a : KOM) (a1 : KOM) : Prop := ∀ (i : Nat), Eo i x a -> NZ x a i = NZ x a1 i
abbrev Qb (x : GBf) (a : KOM) (a1 : KOM) : Prop := ∀ (n : Int), (wK x.a a.k).has n = lM x a1 n
abbrev Lb (x : GBf) (a : KOM) (a1 : KOM) : Prop := ∀ (n : Int), (wK x.a a.k).st n = fT x a1 n
abbrev Nc (x : GBf) (a : KOM) (a1 : KOM) : Prop := ∀ (n : Int), (AI (wK x.a a.k) n).length = Fb x a1 n /\ ∀ (i : Nat), jO i x a n -> Kc x a n i = lG x a1 n i /\ Fi x a n i = iS x
 a1 n i /\ Js x a n i = jF x a1 n i /\ Iv x a n i = iR x a1 n i
abbrev Pr (a : KOM) (x : GBf) (a1 : KOM) : Prop := fM a x /\ eW x a < eW x a1
abbrev vT (a : KOM) (x : GBf) (a1 : KOM) : Prop := a.o.hi = AER x a1
theorem BVD (x : GBf) : (BRZ x) = ((K8 x = x.a.g.length /\ (∀ (i : Nat), i < K8 x -> (H7 x i).st = (gD x.a.g i).st /\ (H7 x i).lo = (gD x.a.g i).lo /\ (H7 x i).hi = (gD x.a.g i).hi) /\ F8 x
 = x.a.b.length /\ (∀ (i : Nat), i < F8 x -> gD (N3 x) i = gD x.a.b i) /\ K8 x < (4611686018427387904 : Nat) /\ F8 x < (4611686018427387904 : Nat) /\ AX (AOF x) = (0 : Int)) /\ bif bif (0 : Int) == (0
 : Int) then !CJ x.f (0 : Int) (200000 : Int) else false then M4 x /\ G1 x /\ (KY x).snd = (4 : Int) else (∃ (a : KOM), (x.f = x.f /\ a.m = false /\ Lu x = IntKind.i64.wrap (Lu x) /\ (↑a.k : Int) = (0 :
 Int) /\ (wK x.a a.k).g.length = (U0 x).length /\ (∀ (i : Nat), Gl i x a -> QS x a i = (fV x i).st /\ PN x a i = (fV x i).lo /\ QH x a i = (fV x i).hi) /\ (wK x.a a.k).b.length =
 (V5 x).length /\ (∀ (i : Nat), Eo i x a -> NZ x a i = gD (V5 x) i) /\ HP /\ (∀ (n : Int), (wK x.a a.k).has n = false) /\ (∀ (n : Int), (wK x.a a.k).st n = (jX x).st n) /\ (∀ (n : Int), (AI
 (wK x.a a.k) n).length = (T4 x n).length /\ ∀ (i : Nat), jO i x a n -> Kc x a n i = (Ft x n i).a0 /\ Fi x a n i = (Ft x n i).a1 /\ Js x a n i = (Ft x n i).b0 /\ Iv x a n i
 = (Ft x n i).b1) /\ JR /\ JR /\ a.o.lo = (0 : Int) /\ a.o.hi = (0 : Int)) /\ fM a x) /\ ∀ (a : KOM), fM a x -> bif decide ((↑a.k : Int) < Lu x) then (lJ a /\ eT x a /\ gY x a /\
 iP x a /\ hU x a /\ HP /\ lY x a /\ iT x a /\ AAU x a /\ ABT x a /\ ACP x a /\ AFK x a /\ AED x a /\ HP /\ lY x a /\ iT x a /\ (∀ (n : Int), (AI (wK x.a a.k)
 n).length = fH x a n /\ ∀ (i : Nat), jO i x a n -> Kc x a n i = O8 x a n i /\ Fi x a n i = ADP x a n i /\ Js x a n i = AIM x a n i /\ Iv x a n i = O0 x a n i) /\
 (lQ x a /\ U2 a /\ U7 a x) /\ lJ a /\ SA x a = SA x a /\ eT x a /\ gY x a /\ iP x a /\ hU x a /\ HP /\ lY x a /\ iT x a /\ AAU x a /\ (wK x.a
 a.k).g.length = (X6 x a).length /\ (∀ (i : Nat), Gl i x a -> QS x a i = (fQ x a i).st /\ PN x a i = (fQ x a i).lo /\ QH x a i = (fQ x a i).hi) /\ (wK x.a a.k).b.length =
 (P3 x a).length /\ (∀ (i : Nat), Eo i x a -> NZ x a i = gD (P3 x a) i) /\ lQ x a /\ (0 : Int) <= SA x a /\ SA x a <= (2000 : Int)) /\ bif (↑(JO (sB (BkS.mk (Gv x a) (↑a.k : Int)
 (SA x a))) (SA x a)).length : Int) == (0 : Int) then M4 x /\ G1 x /\ (KY x).snd = (6 : Int) else R3 a x /\ R3 a x /\ bif decide (AIF x a > AER x a) then ∃ (a_2 : KOM), (x.f = x.f
 /\ a_2.m = a.m /\ eK x /\ eQ a_2 a /\ eJ x a_2 a /\ iO x a_2 a /\ lN x a_2 a /\ Nz x a_2 a /\ HP /\ Qb x a_2 a /\ Lb x a_2 a /\ Nc x a_2 a /\ JR /\ JR /\
 a_2.o.lo = a.o.lo /\ a_2.o.hi = a.o.hi) /\ Pr a_2 x a else bif !a.m then ∃ (a_2 : KOM), (x.f = x.f /\ a_2.m = true /\ eK x /\ eQ a_2 a /\ eJ x a_2 a /\ iO x a_2 a /\ lN x a_2 a /\ Nz x
 a_2 a /\ HP /\ Qb x a_2 a /\ Lb x a_2 a /\ Nc x a_2 a /\ JR /\ JR /\ a_2.o.lo = AIF x a /\ vT a_2 x a) /\ Pr a_2 x a else ∃ (a_2 : KOM), (x.f = x.f /\ a_2.m = a.m /\
 eK x /\ eQ a_2 a /\ eJ x a_2 a /\ iO x a_2 a /\ lN x a_2 a /\ Nz x a_2 a /\ HP /\ Qb x a_2 a /\ Lb x a_2 a /\ Nc x a_2 a /\ JR /\ JR /\ a_2.o.lo = a.o.lo /\
 vT a_2 x a) /\ Pr a_2 x a else bif !a.m then M4 x /\ G1 x /\ (KY x).snd = (5 : Int) else (KY x).fst.lo = a.o.lo /\ (KY x).fst.hi = a.o.hi /\ (KY x).snd = (0 : Int)) := by kernel_rfl
def BSR (x : GBf) : Prop := AO Try.prog BST Ir (AF Ir) (xGBf x) (AC []) (C_Stages.val x) [] [] []
theorem BUI (x : GBf) : (BSR x) = (((AD x.a.g.length λ (i : Nat) => gD x.a.g i).length = x.a.g.length /\ (∀ (i : Nat), i < (AD x.a.g.length λ (i : Nat) => gD x.a.g i).length -> (gD (AD x.a.g.length λ (i :
 Nat) => gD x.a.g i) i).st = (gD x.a.g i).st /\ (gD (AD x.a.g.length λ (i : Nat) => gD x.a.g i) i).lo = (gD x.a.g i).lo /\ (gD (AD x.a.g.length λ (i : Nat) => gD x.a.g i) i).hi = (gD x.a.g i).hi) /\ (AD x.a.b.length
 λ (i : Nat) => gD x.a.b i).length = x.a.b.length /\ (∀ (i : Nat), i < (AD x.a.b.length λ (i : Nat) => gD x.a.b i).length -> gD (AD x.a.b.length λ (i : Nat) => gD x.a.b i) i = gD x.a.b i) /\ (AD x.a.g.length λ (i
 : Nat) => gD x.a.g i).length < 4611686018427387904 /\ (AD x.a.b.length λ (i : Nat) => gD x.a.b i).length < 4611686018427387904 /\ AX (GB.mk (AD x.a.g.length λ (i : Nat) => gD x.a.g i) (AD x.a.b.length λ (i :
 Nat) => gD x.a.b i)) ≠ 0) /\ bif bif AX (GB.mk (AD x.a.g.length λ (i : Nat) => gD x.a.g i) (AD x.a.b.length λ (i : Nat) => gD x.a.b i)) == 0 then !CJ x.f 0 200000 else false then ((KY x).fst.lo = 0 /\ (KY
 x).fst.hi = 0 /\ (KY x).snd = 4) /\ True else (bif AX (GB.mk (AD x.a.g.length λ (i : Nat) => gD x.a.g i) (AD x.a.b.length λ (i : Nat) => gD x.a.b i)) != 0 then (KY x).fst.lo = 0 /\ (KY x).fst.hi = 0 /\ (KY
 x).snd = AX (GB.mk (AD x.a.g.length λ (i : Nat) => gD x.a.g i) (AD x.a.b.length λ (i : Nat) => gD x.a.b i)) else False) /\ True) := by kernel_rfl
theorem AVR {pr : Int -> Bool} : ∀ (n : Nat) (lo hi : Int), lo <= hi -> lo <= J5 pr n lo hi /\ J5 pr n lo hi <= hi
 | 0, lo, hi, h => ⟨Int.le_refl _, h⟩
 | n + 1, lo, hi, h => by
  unfold J5
  by_cases hl : lo < hi
  ·obtain ⟨h3, h4⟩ := sU hl
   rw [decide_eq_true hl]
   cases pr (lo + (hi - lo + 1).tdiv 2)
   ·have := AVR (pr := pr) n lo (lo + (hi - lo + 1).tdiv 2 - 1) (by omega); exact ⟨this.1, by have := this.2; show J5 _ _ _ _ <= _; omega⟩
   ·have := AVR (pr := pr) n (lo + (hi - lo + 1).tdiv 2) hi h4; exact ⟨by have := this.1; show _ <= J5 _ _ _ _; omega, this.2⟩
  ·rw [decide_eq_false hl]; exact ⟨Int.le_refl _, h⟩
theorem BUB {v : BnF -> Bool} {a : UpI} (h : GP a.w.g a.w.b) (h1 : 0 <= a.k) (h2 : a.k <= a.w.b.length) : (AP a.w a.k).lo - 1 <= upM v a /\ upM v a <= (AP a.w a.k).hi /\ -1 <= upM v a /\ upM v a <= 2000 := by
 obtain ⟨s1, s2, s3, _⟩ := Pe h h1 h2
 obtain ⟨i1, i2⟩ := AVR (pr := upP v a) 3000 ((AP a.w a.k).lo - 1) (AP a.w a.k).hi (by omega)
 unfold upM; omega
theorem BYO (x : GBf) (h : preB x.a) (hE : AX x.a = 0) : BRZ x := by
 rw [BVD]; delta K0 K8 H7 N3 F8 AOF M4 G1 Lu jX U0 Gl Er QS fV PN QH V5 Eo NZ AAX HP T4 jO Jb Kc Ft Fi Js Iv JR R4 eW fM lJ VA Hg eT mD ACO ADI ACB gY RS XY iP AEW hU lY iT Gv ADB fH Ha O8 ADP AIM O0 AAU ABT ACP AFK AED lQ U2 U7 SA JP X6 fQ P3 lM AEX fT AFX AAN AFL lC Y9 Fb Kf AAQ Gx lG ACH iS ADM jF AFC iR AGA R3 ABZ AIF AER eK eQ eJ iO lN Nz Qb Lb Nc Pr vT; simp only [CC, eq_self, implies_true, forall_const, JI, NB, Rm, Rf, MZ, if_true]
 have hb : GP x.a.g x.a.b := ASM hE
 have hl24 : x.a.b.length <= 24 := hb.2.2.1
 have e0 : AX x.a == 0 := by rw [hE]; rfl
 refine ⟨⟨h.1, h.2, hE⟩, λ hf => ?_, λ hf => ⟨⟨⟨0, default, false⟩, ⟨rfl, (HM (by omega) (by omega)).symm, rfl, rfl, λ _ _ => ⟨rfl, rfl, rfl⟩, rfl, λ _ _ => rfl, λ _ => rfl, λ _ => rfl, λ _ => ⟨rfl, λ _ _ => ⟨rfl, rfl, rfl, rfl⟩⟩, rfl, rfl⟩, Nat.zero_le _, ?_⟩, λ y ⟨hy1, hy2⟩ => ⟨λ hlt => ?_, λ hge => ?_⟩⟩⟩
 ·have e : KY x = (default, 4) := by
   have hf : (!inF x) = true := hf
   unfold KY; rw [e0, show inF x = false by simpa using hf]; rfl
  rw [e]; exact ⟨rfl, rfl, rfl⟩
 ·have hf : (!inF x) = false := hf
  show KY x = _
  unfold KY; rw [e0, show inF x = true by simpa using hf]; rfl
 ·have hlt : y.k <= x.a.b.length := by omega
  have hs := Pe (w := wK x.a y.k) (k := y.k) hb (by omega) (by show (y.k : Int) <= (x.a.b.length : Nat); omega)
  have hkk : (0 : Int) <= (y.k : Int) /\ (y.k : Int) <= ((wK x.a y.k).b.length : Nat) := ⟨by omega, by show (y.k : Int) <= (x.a.b.length : Nat); omega⟩
  have hup : (BY (wK x.a y.k) y.k).has y.k = true := by show FX _ _ _ = true; simp [FX]
  obtain ⟨n, hn⟩ : ∃ n, x.a.b.length + 1 - y.k = n + 1 := ⟨x.a.b.length - y.k, by omega⟩
  have hn2 : x.a.b.length + 1 - (y.k + 1) = n := by omega
  have hn3 : x.a.b.length + 1 - (y.k + 1) < x.a.b.length + 1 - y.k := by omega
  have key := hy2
  rw [hn] at key; unfold stgS at key
  have u1 := BUB (v := mH) (a := ⟨BY (wK x.a y.k) y.k, y.k, ⟨x.f, 1⟩⟩) hb hkk.1 hkk.2
  have e1 : IntKind.i64.wrap (upM mH ⟨BY (wK x.a y.k) y.k, y.k, ⟨x.f, 1⟩⟩ + 1) = stF x y.k := HM (by omega) (by omega)
  have e2 : upM sQ ⟨BY (wK x.a y.k) y.k, y.k, ⟨x.f, 1⟩⟩ = stL x y.k := rfl
  rw [e1, e2]
  have ek : ((y.k + 1 : Nat) : Int) = IntKind.i64.wrap ((y.k : Int) + 1) := by rw [HM (by omega) (by omega)]; rfl
  refine ⟨⟨⟨hb, hkk⟩, hb, hs.1, by omega⟩, λ hc => ?_, λ hc => ⟨⟨hb, hkk.1, hkk.2, hup⟩, ⟨hb, hkk.1, hkk.2, hup⟩, λ hg => ?_, λ hg => ⟨λ hm => ?_, λ hm => ?_⟩⟩⟩
  ·have hc : ((lnK x.a y.k).length : Int) == 0 := hc
   rw [decide_eq_true (show (lnK x.a y.k).length = 0 by have := eq_of_beq hc; omega)] at key
   rw [key]; exact ⟨rfl, rfl, rfl⟩
  all_goals
   have hc : (((lnK x.a y.k).length : Int) == 0) = false := hc
   rw [decide_eq_false (show ¬(lnK x.a y.k).length = 0 by intro h0; rw [h0] at hc; cases hc)] at key
  ·rw [decide_eq_true (show stL x y.k < stF x y.k from hg)] at key
   exact ⟨⟨y.k + 1, y.o, y.m⟩, ⟨rfl, ek, rfl, λ _ _ => ⟨rfl, rfl, rfl⟩, rfl, λ _ _ => rfl, λ _ => rfl, λ _ => rfl, λ _ => ⟨rfl, λ _ _ => ⟨rfl, rfl, rfl, rfl⟩⟩, rfl, rfl⟩, ⟨by show y.k + 1 <= _; omega, by show KY x = stgS x (x.a.b.length + 1 - (y.k + 1)) _ _ _; rw [hn2]; exact key⟩, hn3⟩
  ·rw [decide_eq_false (show ¬stL x y.k < stF x y.k from hg), hm] at key
   exact ⟨⟨y.k + 1, ⟨stF x y.k, stL x y.k⟩, true⟩, ⟨rfl, ek, rfl, λ _ _ => ⟨rfl, rfl, rfl⟩, rfl, λ _ _ => rfl, λ _ => rfl, λ _ => rfl, λ _ => ⟨rfl, λ _ _ => ⟨rfl, rfl, rfl, rfl⟩⟩, rfl, rfl⟩, ⟨by show y.k + 1 <= _; omega, by show KY x = stgS x (x.a.b.length + 1 - (y.k + 1)) _ _ _; rw [hn2]; exact key⟩, hn3⟩
  ·rw [decide_eq_false (show ¬stL x y.k < stF x y.k from hg), hm] at key
   exact ⟨⟨y.k + 1, ⟨y.o.lo, stL x y.k⟩, true⟩, ⟨hm.symm, ek, rfl, λ _ _ => ⟨rfl, rfl, rfl⟩, rfl, λ _ _ => rfl, λ _ => rfl, λ _ => rfl, λ _ => ⟨rfl, λ _ _ => ⟨rfl, rfl, rfl, rfl⟩⟩, rfl, rfl⟩, ⟨by show y.k + 1 <= _; omega, by show KY x = stgS x (x.a.b.length + 1 - (y.k + 1)) _ _ _; rw [hn2]; exact key⟩, hn3⟩
 ·have hk : x.a.b.length + 1 - y.k = 0 := by omega
  rw [hk] at hy2; unfold stgS at hy2
  refine ⟨λ hm => ?_, λ hm => ?_⟩ <;> rw [hm] at hy2 <;> rw [hy2] <;> exact ⟨rfl, rfl, rfl⟩
theorem BYC (x : GBf) (h : preB x.a) (hE : AX x.a ≠ 0) : BSR x := by
 rw [BUI]; simp only [CC, eq_self, implies_true, forall_const, JI, NB, Rm, Rf, MZ, if_true]
 have hE : AX ⟨x.a.g, x.a.b⟩ ≠ 0 := hE
 have e0 : (AX ⟨x.a.g, x.a.b⟩ == 0) = false := by simpa using hE
 rw [e0]
 refine ⟨⟨h.1, h.2, hE⟩, λ hc => (by cases hc), λ _ => ⟨λ _ => ?_, λ hc => ?_⟩⟩
 ·have e : KY x = (default, AX x.a) := by unfold KY; rw [show (AX x.a == 0) = false from e0]; rfl
  rw [e]; exact ⟨rfl, rfl, rfl⟩
 ·exact hE (by simpa using hc)
theorem BCU : AG Try.prog AAS (C_Stages.spec dGBf) := Ctr.spec_ok (C := C_Stages) (λ (x : GBf) h => by
 have h : preB x.a := (show preB x.a /\ True from h).1
 by_cases hE : AX x.a = 0
 ·exact JZ (A := BSA x) (L := []) (keep := []) (ren := []) (fz := []) AKQ (by kernel_rfl) (AB L1 (AB XG (AB Nh (AB pS (AB (oM BJK BGQ) AE))))) (BYO x h hE)
 ·exact JZ (A := BST) (L := []) (keep := []) (ren := []) (fz := []) AKQ (by kernel_rfl) (AB W8 (AB XG (AB Nh (AB pS (AB (oM BJK BGQ) AE))))) (BYC x h hE)) _
end Go.Bal
