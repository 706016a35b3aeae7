/- Package rating: the reference: Stages, Dry, Widest; the program's Widest. -/
import Derived.Test.YtoihhodbkimedaaGreatRFl3
set_option linter.unusedVariables false
set_option linter.unusedSimpArgs false
namespace Go.Bal
open Go Go.Sym Go.Proofs
def C_rStg : Ctr := { α := GBf, xs := xGBf, L := λ _ => [], val := λ x => .tup [.d (AFS (CA x).1), .int (CA x).2], keep := λ _ => [], pre := λ x => [x.a.g.length < 1073741824 /\ x.a.b.length < 1073741824] }
structure STS where
 p : Nat
 t : Int
 o : Span
 m : Bool
 deriving Inhabited
structure StI (l : List Gau) (b : List Int) (q T : Int) (o : Span) (m : Bool) : Prop where
 is : stI l b q T o m
def srS (x : GBf) : List (Nat × AVal) := [(0, .d (AS x.a.g)), (1, .d (BC x.a.b)), (2, .int x.f), (6, .bptr 1000 0)]
def srT (x : GBf) (y : STS) : List (Nat × AVal) := srS x ++ [(10, .bptr 12000 0), (11, .bool y.m), (12, .int y.p)]
def srH (y : STS) : List (Nat × HCell) := [(1000, .live (.box [.int 0, .int 0])), (12000, .live (.box [.int y.o.lo, .int y.o.hi]))]
structure srI (x : GBf) : Prop where
 th : Thru x.a.g x.a.b
 f : 0 <= x.f /\ x.f <= 200000
def sr7 (x : GBf) : Shape := { α := Nat, dflt := 0, T := λ p => ⟨srS x ++ [(9, .int p)], [(1000, .live (.box [.int 0, .int 0]))]⟩, inv := λ p => (AH x.a = 0 /\ inF x = true) /\ p <= x.a.b.length + 1 /\ ∀ j, j < p -> HV (DP x.a.g x.a.b j) = true, meas := λ p => x.a.b.length + 1 - p }
def sr14 (x : GBf) : Shape := { α := STS, dflt := default, T := λ y => ⟨srT x y, srH y⟩, inv := λ y => (srI x /\ y.t = 0) /\ y.p <= x.a.b.length + 1 /\ StI x.a.g x.a.b x.f (tP x.a.b y.p) y.o y.m, meas := λ y => x.a.b.length + 1 - y.p }
def srC (x : GBf) (n : Nat) (y : STS) : Prop := (srI x /\ y.t = 0 /\ x.a.b.length + 1 - y.p = n) /\ y.p <= x.a.b.length /\ StI x.a.g x.a.b x.f (tP x.a.b y.p) y.o y.m
def sr20 (x : GBf) (n : Nat) : Shape := { α := STS, dflt := default, T := λ y => ⟨srT x y ++ [(13, .d (AS (DP x.a.g x.a.b y.p))), (14, .int (CX x.a.b y.p).lo), (15, .int 2000)], srH y⟩, inv := λ y => srC x n y, meas := λ _ => 0 }
def sr22 (x : GBf) (n : Nat) : Shape := { α := STS, dflt := default, T := λ y => ⟨srT x y ++ [(13, .d (AS (DP x.a.g x.a.b y.p))), (14, .int (CX x.a.b y.p).lo), (15, .int (CX x.a.b y.p).hi)], srH y⟩, inv := λ y => srC x n y, meas := λ _ => 0 }
def sr23 (x : GBf) (n : Nat) : Shape := { α := STS, dflt := default, T := λ y => ⟨srT x y ++ [(13, .d (AS (DP x.a.g x.a.b y.p))), (15, .int (CX x.a.b y.p).hi), (16, .int y.t)], srH y⟩, inv := λ y => (srI x /\ x.a.b.length + 1 - y.p = n) /\ y.p <= x.a.b.length /\ ((CX x.a.b y.p).lo <= y.t /\ y.t <= (CX x.a.b y.p).hi + 1) /\ StI x.a.g x.a.b x.f y.t y.o y.m, meas := λ y => ((CX x.a.b y.p).hi + 1 - y.t).toNat }
def CAU (x : GBf) : Ann := { ann 99 [(ZC, C_rAsk.spec dGB), (Fi, Mi), (ACP, C_rIns.spec dGBI), (qT, C_rPb.spec JM), (AUE, C_rFw.spec dGT), (Ok, gX)] with loops := λ id => if id = 7 then some [sr7 x] else if id = 14 then some [sr14 x] else none, inner := λ gs id => if id = 23 then some [sr23 x (gs.getD 0 0)] else none, cutIn := λ gs id => if id = 20 then some [sr20 x (gs.getD 0 0)] else if id = 22 then some [sr22 x (gs.getD 0 0)] else none }
def CGU (x : GBf) : Prop := AN Try.prog (CAU x) BPG (AF BPG) (xGBf x) (AC []) (C_rStg.val x) [] [] []
abbrev ZN (x : GBf) : List Gau := AE x.a.g.length λ (i : Nat) => gD x.a.g i
abbrev rD (x : GBf) : Nat := (ZN x).length
abbrev uO (x : GBf) : Prop := rD x = x.a.g.length
abbrev xO (x : GBf) (i : Nat) : Gau := gD (ZN x) i
abbrev tR (x : GBf) : Prop := ∀ (i : Nat), i < rD x -> (xO x i).st = (gD x.a.g i).st /\ (xO x i).lo = (gD x.a.g i).lo /\ (xO x i).hi = (gD x.a.g i).hi
abbrev Au (x : GBf) : List Int := AE x.a.b.length λ (i : Nat) => gD x.a.b i
abbrev rC (x : GBf) : Nat := (Au x).length
abbrev wS (x : GBf) : Prop := rC x = x.a.b.length
abbrev wJ (x : GBf) : Prop := ∀ (i : Nat), i < rC x -> gD (Au x) i = gD x.a.b i
abbrev oI (x : GBf) : Prop := rD x < (1073741824 : Nat) /\ rC x < (1073741824 : Nat)
abbrev zS (x : GBf) : Int := AH (GB.mk (ZN x) (Au x))
abbrev Aq (x : GBf) : Prop := (CA x).fst.lo = (0 : Int)
abbrev WW (x : GBf) : Prop := (CA x).fst.hi = (0 : Int)
abbrev ES (x : GBf) : Prop := x.a.g.length = x.a.g.length
abbrev EQ (x : GBf) : Prop := ∀ (i : Nat), i < x.a.g.length -> (gD x.a.g i).st = (gD x.a.g i).st /\ (gD x.a.g i).lo = (gD x.a.g i).lo /\ (gD x.a.g i).hi = (gD x.a.g i).hi
abbrev EU (x : GBf) : Prop := x.a.b.length = x.a.b.length
abbrev EM (x : GBf) : Prop := ∀ (i : Nat), i < x.a.b.length -> gD x.a.b i = gD x.a.b i
abbrev FZ : Prop := Int.ofNat (0 : Nat) = Int.ofNat (0 : Nat)
abbrev zF : Prop := FZ /\ FZ
abbrev XC (x : GBf) : Nat := x.a.b.length + (1 : Nat)
abbrev Tq (x : GBf) (a : Nat) : Prop := (AH x.a = (0 : Int) /\ inF x = true) /\ a <= XC x /\ ∀ (j : Nat), j < a -> HV (DP x.a.g x.a.b (↑j : Int)) = true
abbrev yY (x : GBf) (a : Nat) : List Gau := DP (ZN x) (Au x) (↑a : Int)
abbrev ABZ (x : GBf) (a : Nat) : Nat := (yY x a).length
abbrev XW (x : GBf) (a : Nat) (i : Nat) : Gau := gD (yY x a) i
abbrev Bx (x : GBf) (a : Nat) : List Gau := AE (ABZ x a) λ (i : Nat) => XW x a i
abbrev Vm (x : GBf) (a : Nat) : Nat := (Bx x a).length
abbrev AEC (i : Nat) (x : GBf) (a : Nat) : Prop := i < Vm x a
abbrev Tt (x : GBf) (a : Nat) (i : Nat) : Gau := gD (Bx x a) i
abbrev Vi (x : GBf) (a : Nat) (i : Nat) : Int := (Tt x a i).st
abbrev N1 (g : Gau) : Prop := (0 : Int) <= g.st /\ g.st <= (2000 : Int) /\ (0 : Int) <= g.lo /\ g.lo <= g.hi /\ g.hi <= (200000 : Int)
abbrev yI (x : GBf) (a : Nat) : Nat := XC x - a
abbrev C5 (x : GBf) (a : STS) : Prop := StI x.a.g x.a.b x.f (tP x.a.b a.p) a.o a.m
abbrev To (x : GBf) (a : STS) : Prop := (srI x /\ a.t = (0 : Int)) /\ a.p <= XC x /\ C5 x a
abbrev Ru (a : STS) : Int := IntKind.i64.wrap ((↑a.p : Int) - (1 : Int))
abbrev IZ (a : STS) (a1 : STS) : Prop := (↑a.p : Int) = (↑a1.p : Int)
abbrev N0 (x : GBf) (a : STS) : List Gau := DP x.a.g x.a.b (↑a.p : Int)
abbrev MU (x : GBf) (a : STS) : Nat := (N0 x a).length
abbrev X1 (x : GBf) (a : STS) : List Gau := DP (ZN x) (Au x) (↑a.p : Int)
abbrev Y2 (x : GBf) (a : STS) (a1 : STS) : Prop := MU x a = (X1 x a1).length
abbrev ACO (i : Nat) (x : GBf) (a : STS) : Prop := i < MU x a
abbrev WK (x : GBf) (a : STS) (i : Nat) : Gau := gD (N0 x a) i
abbrev YV (x : GBf) (a : STS) (i : Nat) : Int := (WK x a i).st
abbrev Tv (x : GBf) (a : STS) (i : Nat) : Gau := gD (X1 x a) i
abbrev YZ (x : GBf) (a : STS) (i : Nat) : Int := (WK x a i).lo
abbrev Al (x : GBf) (a : STS) (i : Nat) : Int := (WK x a i).hi
abbrev AAY (x : GBf) (a : STS) (a1 : STS) : Prop := ∀ (i : Nat), ACO i x a -> YV x a i = (Tv x a1 i).st /\ YZ x a i = (Tv x a1 i).lo /\ Al x a i = (Tv x a1 i).hi
abbrev MY (a : STS) (a1 : STS) : Prop := FZ /\ FZ /\ a.o.lo = a1.o.lo /\ a.o.hi = a1.o.hi
abbrev AAO (a : STS) (a1 : STS) : Prop := Int.ofNat (2000 : Nat) = Int.ofNat (2000 : Nat) /\ MY a a1
abbrev ZS (x : GBf) (a : STS) : Nat := XC x - a.p
abbrev N9 (x : GBf) (a : STS) (a1 : STS) : Prop := ZS x a = ZS x a1
abbrev zW (a : STS) (x : GBf) : Prop := a.p <= x.a.b.length
abbrev OC (x : GBf) (a : STS) (a1 : STS) : Prop := (srI x /\ a.t = (0 : Int) /\ N9 x a a1) /\ zW a x /\ C5 x a
abbrev L1 (a : STS) (x : GBf) : Prop := (↑a.p : Int) < (↑x.a.b.length : Int)
abbrev NF (x : GBf) (a : STS) (a1 : STS) : Prop := MU x a = MU x a1
abbrev NL (x : GBf) (a : STS) (a1 : STS) : Prop := ∀ (i : Nat), ACO i x a -> YV x a i = YV x a1 i /\ YZ x a i = YZ x a1 i /\ Al x a i = Al x a1 i
abbrev I5 (x : GBf) (a : STS) (a1 : STS) : Prop := (CX x.a.b a.p).lo = (CX x.a.b a1.p).lo
abbrev WJ (x : GBf) (a : STS) (a1 : STS) : Prop := (CX x.a.b a.p).hi = (CX x.a.b a1.p).hi
abbrev ADF (x : GBf) (a : STS) : Int := (CX x.a.b a.p).hi + (1 : Int)
abbrev Ug (x : GBf) (a : STS) (a1 : STS) : Prop := (srI x /\ N9 x a a1) /\ zW a x /\ ((CX x.a.b a.p).lo <= a.t /\ a.t <= ADF x a) /\ StI x.a.g x.a.b x.f a.t a.o a.m
abbrev Bo (x : GBf) (a : STS) : List Gau := AE (MU x a) λ (i : Nat) => WK x a i
abbrev Yb (x : GBf) (a : STS) : Nat := (Bo x a).length
abbrev T6 (i : Nat) (x : GBf) (a : STS) : Prop := i < Yb x a
abbrev Wt (x : GBf) (a : STS) (i : Nat) : Gau := gD (Bo x a) i
abbrev Xz (x : GBf) (a : STS) (i : Nat) : Int := (Wt x a i).st
abbrev yZ (g : Gau) (x : GBf) (a : STS) : Prop := List.Mem g (Bo x a)
abbrev ABR (x : GBf) (a : STS) : Bnd := FU (Bo x a) a.t
abbrev Xp (a : STS) (a1 : STS) : Prop := a.t = IntKind.i64.wrap (a1.t + (1 : Int))
abbrev R8 (x : GBf) (a : STS) : Nat := (ADF x a - a.t).toNat
abbrev St (x : GBf) (a : STS) (a1 : STS) (a2 : STS) : Prop := Ug x a a1 /\ R8 x a < R8 x a2
theorem CKS (x : GBf) : (CGU x) = ((uO x /\ tR x /\ wS x /\ wJ x /\ oI x) /\ bif zS x != (0 : Int) then Aq x /\ WW x /\ (CA x).snd = zS x else bif !BY x.f (0 :
 Int) (200000 : Int) then Aq x /\ WW x /\ (CA x).snd = (4 : Int) else (∃ (a : Nat), (ES x /\ EQ x /\ EU x /\ EM x /\ x.f = x.f /\ (↑a : Int) = (0 : Int) /\ zF) /\ Tq x a) /\
 ∀ (a : Nat), Tq x a -> bif decide ((↑a : Int) <= (↑x.a.b.length : Int)) then (uO x /\ tR x /\ wS x /\ wJ x /\ (↑a : Int) = (↑a : Int) /\ oI x /\ Vm x a = ABZ x a /\ (∀ (i : Nat),
 AEC i x a -> Vi x a i = (XW x a i).st /\ (Tt x a i).lo = (XW x a i).lo /\ (Tt x a i).hi = (XW x a i).hi) /\ Vm x a < (1073741824 : Nat) /\ (∀ (g : Gau), List.Mem g
 (Bx x a) -> N1 g) /\ ∀ (i j : Nat), i <= j -> AEC j x a -> Vi x a i <= Vi x a j) /\ bif !HV (Bx x a) then Aq x /\ WW x /\ (CA x).snd = (6 : Int) else ∃ (a_2 : Nat),
 (ES x /\ EQ x /\ EU x /\ EM x /\ x.f = x.f /\ (↑a_2 : Int) = IntKind.i64.wrap ((↑a : Int) + (1 : Int)) /\ zF) /\ Tq x a_2 /\ yI x a_2 < yI x a else (∃ (a : STS), (ES
 x /\ EQ x /\ EU x /\ EM x /\ x.f = x.f /\ a.m = false /\ (↑a.p : Int) = (0 : Int) /\ FZ /\ FZ /\ a.o.lo = (0 : Int) /\ a.o.hi = (0 : Int)) /\ To x a) /\ ∀ (a : STS), To x a -> bif
 decide ((↑a.p : Int) <= (↑x.a.b.length : Int)) then (uO x /\ tR x /\ wS x /\ wJ x /\ (↑a.p : Int) = (↑a.p : Int) /\ oI x) /\ (bif decide ((↑a.p : Int) > (0 : Int)) then ((0 : Int) <= Ru a /\
 Ru a < (↑x.a.b.length : Int)) /\ ∃ (a_3 : STS), (ES x /\ EQ x /\ EU x /\ EM x /\ x.f = x.f /\ a_3.m = a.m /\ IZ a_3 a /\ Y2 x a_3 a /\ AAY x a_3 a /\ (CX x.a.b a_3.p).lo = gD
 x.a.b (Ru a).toNat /\ AAO a_3 a) /\ OC x a_3 a else ∃ (a_3 : STS), (ES x /\ EQ x /\ EU x /\ EM x /\ x.f = x.f /\ a_3.m = a.m /\ IZ a_3 a /\ Y2 x a_3 a /\ AAY x
 a_3 a /\ (CX x.a.b a_3.p).lo = (0 : Int) /\ AAO a_3 a) /\ OC x a_3 a) /\ ∀ (a_3 : STS), OC x a_3 a -> (bif decide (L1 a_3 x) then ((0 : Int) <= (↑a_3.p : Int) /\ L1 a_3 x) /\ ∃ (a_5 : STS),
 (ES x /\ EQ x /\ EU x /\ EM x /\ x.f = x.f /\ a_5.m = a_3.m /\ IZ a_5 a_3 /\ NF x a_5 a_3 /\ NL x a_5 a_3 /\ I5 x a_5 a_3 /\ (CX x.a.b a_5.p).hi = IntKind.i64.wrap (gD x.a.b
 a_3.p - (1 : Int)) /\ MY a_5 a_3) /\ OC x a_5 a else ∃ (a_5 : STS), (ES x /\ EQ x /\ EU x /\ EM x /\ x.f = x.f /\ a_5.m = a_3.m /\ IZ a_5 a_3 /\ NF x a_5 a_3 /\ NL x
 a_5 a_3 /\ I5 x a_5 a_3 /\ (CX x.a.b a_5.p).hi = (2000 : Int) /\ MY a_5 a_3) /\ OC x a_5 a) /\ ∀ (a_5 : STS), OC x a_5 a -> (∃ (a_7 : STS), (ES x /\ EQ x /\ EU x /\ EM x /\
 x.f = x.f /\ a_7.m = a_5.m /\ IZ a_7 a_5 /\ NF x a_7 a_5 /\ NL x a_7 a_5 /\ WJ x a_7 a_5 /\ a_7.t = (CX x.a.b a_5.p).lo /\ MY a_7 a_5) /\ Ug x a_7 a) /\ ∀ (a_7 : STS), Ug x a_7 a
 -> bif decide (a_7.t <= (CX x.a.b a_7.p).hi) then (Yb x a_7 = MU x a_7 /\ (∀ (i : Nat), T6 i x a_7 -> Xz x a_7 i = YV x a_7 i /\ (Wt x a_7 i).lo = YZ x a_7 i /\ (Wt x
 a_7 i).hi = Al x a_7 i) /\ a_7.t = a_7.t /\ Yb x a_7 < (1073741824 : Nat) /\ (∀ (g : Gau), yZ g x a_7 -> N1 g) /\ (∀ (i j : Nat), i <= j -> T6 j x a_7 -> Xz x a_7 i <= Xz x a_7 j)
 /\ (∃ (x_1 : Ln), ((0 : Int) <= x_1.a0 /\ x_1.a0 < x_1.b0 /\ x_1.b0 <= (2000 : Int) /\ (0 : Int) <= x_1.a1 /\ x_1.a1 <= x_1.b1 /\ x_1.b1 <= (200000 : Int)) /\ ∀ (g : Gau), yZ g x a_7 -> g.lo * (CH x_1).w <= (CH x_1).num g.st
 /\ (CH x_1).num g.st <= g.hi * (CH x_1).w) /\ (0 : Int) <= a_7.t /\ a_7.t <= (2000 : Int)) /\ bif bif UX (Rt.mk x.f (1 : Int)) (ABR x a_7).lo then true else UX (ABR x a_7).hi (Rt.mk x.f (1 : Int)) then ∃ (a_9
 : STS), (ES x /\ EQ x /\ EU x /\ EM x /\ x.f = x.f /\ a_9.m = a_7.m /\ IZ a_9 a_7 /\ NF x a_9 a_7 /\ NL x a_9 a_7 /\ WJ x a_9 a_7 /\ Xp a_9 a_7 /\ MY a_9 a_7) /\
 St x a_9 a a_7 else bif !a_7.m then ∃ (a_9 : STS), (ES x /\ EQ x /\ EU x /\ EM x /\ x.f = x.f /\ a_9.m = true /\ IZ a_9 a_7 /\ NF x a_9 a_7 /\ NL x a_9 a_7 /\ WJ x
 a_9 a_7 /\ Xp a_9 a_7 /\ FZ /\ FZ /\ a_9.o.lo = a_7.t /\ a_9.o.hi = a_7.t) /\ St x a_9 a a_7 else ∃ (a_9 : STS), (ES x /\ EQ x /\ EU x /\ EM x /\ x.f = x.f /\ a_9.m = true /\
 IZ a_9 a_7 /\ NF x a_9 a_7 /\ NL x a_9 a_7 /\ WJ x a_9 a_7 /\ Xp a_9 a_7 /\ FZ /\ FZ /\ a_9.o.lo = a_7.o.lo /\ a_9.o.hi = a_7.t) /\ St x a_9 a a_7 else ∃ (a_9 : STS),
 (ES x /\ EQ x /\ EU x /\ EM x /\ x.f = x.f /\ a_9.m = a_7.m /\ (↑a_9.p : Int) = IntKind.i64.wrap ((↑a_7.p : Int) + (1 : Int)) /\ MY a_9 a_7) /\ To x a_9 /\ ZS x a_9 < ZS x a
 else bif !a.m then Aq x /\ WW x /\ (CA x).snd = (5 : Int) else (CA x).fst.lo = a.o.lo /\ (CA x).fst.hi = a.o.hi /\ (CA x).snd = (0 : Int)) := by kernel_rfl
def C_rDry : Ctr := { α := GB, xs := xGB, L := λ _ => [], val := λ x => .tup [.d (AFS (EN x).1), .int (EN x).2], keep := λ _ => [], pre := λ x => [x.g.length < 1073741824 /\ x.b.length < 1073741824] }
structure TOs where
 t : Int
 o : Span
 deriving Inhabited
def rd9 (x : GB) : Shape := { α := TOs, dflt := default, T := λ y => ⟨[(1, .d (BC x.b)), (4, .bptr 1000 0), (7, .d (AS (DP x.g x.b 0))), (8, .bptr 8016 0), (9, .int y.t)], [(1000, .live (.box [.int 0, .int 0])), (8016, .live (.box [.int y.o.lo, .int y.o.hi]))]⟩, inv := λ y => (AH x = 0 /\ HV (DP x.g x.b 0) = true) /\ dyI x y.t y.o, meas := λ y => (2001 - y.t).toNat }
def CCT (x : GB) : Ann := { ann 52 [(ZC, C_rAsk.spec dGB), (ACP, C_rIns.spec dGBI), (qT, C_rPb.spec JM), (Xc, C_rPart.spec dIX), (AUE, C_rFw.spec dGT)] with loops := λ id => if id = 9 then some [rd9 x] else none }
def CBK (x : GB) : Prop := AN Try.prog (CCT x) BRH (AF BRH) (xGB x) (AC []) (C_rDry.val x) [] [] []
abbrev Oq (x : GB) : List Gau := AE x.g.length λ (i : Nat) => gD x.g i
abbrev oT (x : GB) : Nat := (Oq x).length
abbrev AWO (x : GB) : Prop := oT x = x.g.length
abbrev rO (x : GB) (i : Nat) : Gau := gD (Oq x) i
abbrev APS (x : GB) : Prop := ∀ (i : Nat), i < oT x -> (rO x i).st = (gD x.g i).st /\ (rO x i).lo = (gD x.g i).lo /\ (rO x i).hi = (gD x.g i).hi
abbrev YF (x : GB) : List Int := AE x.b.length λ (i : Nat) => gD x.b i
abbrev wT (x : GB) : Nat := (YF x).length
abbrev rH (x : GB) : Prop := wT x = x.b.length
abbrev uA (x : GB) : Prop := ∀ (i : Nat), i < wT x -> gD (YF x) i = gD x.b i
abbrev AWW (x : GB) : Prop := wT x < (1073741824 : Nat)
abbrev M9 (x : GB) : Prop := oT x < (1073741824 : Nat) /\ AWW x
abbrev T1 (x : GB) : Int := AH (GB.mk (Oq x) (YF x))
abbrev ABN (x : GB) : Prop := (EN x).fst.lo = (0 : Int)
abbrev B5 (x : GB) : Prop := (EN x).fst.hi = (0 : Int)
abbrev AEQ (x : GB) : List Gau := DP (Oq x) (YF x) (0 : Int)
abbrev Tw (x : GB) : Nat := (AEQ x).length
abbrev ZJ (x : GB) (i : Nat) : Gau := gD (AEQ x) i
abbrev YN (x : GB) : List Gau := AE (Tw x) λ (i : Nat) => ZJ x i
abbrev Ty (x : GB) : Nat := (YN x).length
abbrev yG (i : Nat) (x : GB) : Prop := i < Ty x
abbrev Vr (x : GB) (i : Nat) : Gau := gD (YN x) i
abbrev Xf (x : GB) (i : Nat) : Int := (Vr x i).st
abbrev AAR (x : GB) (i : Nat) : Int := (ZJ x i).st
abbrev xX (x : GB) (i : Nat) : Int := (ZJ x i).lo
abbrev X8 (x : GB) (i : Nat) : Int := (ZJ x i).hi
abbrev N5 (g : Gau) : Prop := (0 : Int) <= g.st /\ g.st <= (2000 : Int) /\ (0 : Int) <= g.lo /\ g.lo <= g.hi /\ g.hi <= (200000 : Int)
abbrev RA (x : GB) : Prop := x.b.length = x.b.length
abbrev RH (x : GB) : Prop := ∀ (i : Nat), i < x.b.length -> gD x.b i = gD x.b i
abbrev Xe (x : GB) : List Gau := DP x.g x.b (0 : Int)
abbrev LZ (x : GB) : Nat := (Xe x).length
abbrev C3 (i : Nat) (x : GB) : Prop := i < LZ x
abbrev ZD (x : GB) (i : Nat) : Gau := gD (Xe x) i
abbrev Am (x : GB) (i : Nat) : Int := (ZD x i).st
abbrev Bs (x : GB) (i : Nat) : Int := (ZD x i).lo
abbrev Cf (x : GB) (i : Nat) : Int := (ZD x i).hi
abbrev FX : Prop := Int.ofNat (0 : Nat) = Int.ofNat (0 : Nat)
abbrev AAI (a : TOs) : Prop := (0 : Int) <= a.t
abbrev AAD (a : TOs) : Int := a.t - (1 : Int)
abbrev Sb (x : GB) (a : TOs) : Prop := (AH x = (0 : Int) /\ HV (Xe x) = true) /\ (AAI a /\ a.t <= (CX x.b (0 : Nat)).hi + (1 : Int)) /\ a.o = Span.mk (min (AAD a) (EN x).fst.lo) (min
 (AAD a) (EN x).fst.hi)
abbrev ABJ (a : TOs) : Prop := a.t <= (2000 : Int)
abbrev YH (x : GB) : List Gau := AE (LZ x) λ (i : Nat) => ZD x i
abbrev Sf (x : GB) : Nat := (YH x).length
abbrev AFE (i : Nat) (x : GB) : Prop := i < Sf x
abbrev Tg (x : GB) (i : Nat) : Gau := gD (YH x) i
abbrev Rr (x : GB) (i : Nat) : Int := (Tg x i).st
abbrev E6 (g : Gau) (x : GB) : Prop := List.Mem g (YH x)
abbrev X6 (x : GB) (a : TOs) : Bnd := FU (YH x) a.t
abbrev ACK (x : GB) (a : TOs) : Bool := (X6 x a).lo.n == (0 : Int)
abbrev XL (x : GB) : Prop := LZ x = LZ x
abbrev Bj (x : GB) : Prop := ∀ (i : Nat), C3 i x -> Am x i = Am x i /\ Bs x i = Bs x i /\ Cf x i = Cf x i
abbrev Aj (a : TOs) (a1 : TOs) : Prop := a.t = IntKind.i64.wrap (a1.t + (1 : Int))
abbrev ADP (a : TOs) : Nat := ((2001 : Int) - a.t).toNat
abbrev Ar (x : GB) (a : TOs) (a1 : TOs) : Prop := Sb x a /\ ADP a < ADP a1
theorem CMO (x : GB) : (CBK x) = ((AWO x /\ APS x /\ rH x /\ uA x /\ M9 x) /\ bif T1 x != (0 : Int) then ABN x /\ B5 x /\ (EN x).snd = T1 x else (AWO x /\
 APS x /\ rH x /\ uA x /\ (0 : Int) = Int.ofNat (0 : Nat) /\ M9 x) /\ (Ty x = Tw x /\ (∀ (i : Nat), yG i x -> Xf x i = AAR x i /\ (Vr x i).lo = xX x i /\
 (Vr x i).hi = X8 x i) /\ Ty x < (1073741824 : Nat) /\ (∀ (g : Gau), List.Mem g (YN x) -> N5 g) /\ ∀ (i j : Nat), i <= j -> yG j x -> Xf x i <= Xf x j) /\ bif !HV
 (YN x) then ABN x /\ B5 x /\ (EN x).snd = (6 : Int) else (∃ (a : TOs), (RA x /\ RH x /\ LZ x = Tw x /\ (∀ (i : Nat), C3 i x -> Am x i = AAR x i /\ Bs
 x i = xX x i /\ Cf x i = X8 x i) /\ a.t = (0 : Int) /\ FX /\ FX /\ a.o.lo = (-1 : Int) /\ a.o.hi = (-1 : Int)) /\ Sb x a) /\ ∀ (a : TOs), Sb x a -> (rH x /\ uA x /\ a.t =
 a.t /\ AWW x /\ True) /\ bif bif (↑(ET (YF x) a.t) : Int) == (0 : Int) then decide (ABJ a) else false then (Sf x = LZ x /\ (∀ (i : Nat), AFE i x -> Rr x i = Am x i /\
 (Tg x i).lo = Bs x i /\ (Tg x i).hi = Cf x i) /\ a.t = a.t /\ Sf x < (1073741824 : Nat) /\ (∀ (g : Gau), E6 g x -> N5 g) /\ (∀ (i j : Nat), i <= j -> AFE j x -> Rr x i
 <= Rr x j) /\ (∃ (x_1 : Ln), ((0 : Int) <= x_1.a0 /\ x_1.a0 < x_1.b0 /\ x_1.b0 <= (2000 : Int) /\ (0 : Int) <= x_1.a1 /\ x_1.a1 <= x_1.b1 /\ x_1.b1 <= (200000 : Int)) /\ ∀ (g : Gau), E6 g x -> g.lo * (CH x_1).w <= (CH
 x_1).num g.st /\ (CH x_1).num g.st <= g.hi * (CH x_1).w) /\ AAI a /\ ABJ a) /\ bif (X6 x a).hi.n == (0 : Int) then bif ACK x a then ∃ (a_2 : TOs), (RA x /\ RH x /\ XL x /\
 Bj x /\ Aj a_2 a /\ FX /\ FX /\ a_2.o.lo = a.t /\ a_2.o.hi = a.t) /\ Ar x a_2 a else ∃ (a_2 : TOs), (RA x /\ RH x /\ XL x /\ Bj x /\ Aj a_2 a /\ FX /\
 FX /\ a_2.o.lo = a.t /\ a_2.o.hi = a.o.hi) /\ Ar x a_2 a else bif ACK x a then ∃ (a_2 : TOs), (RA x /\ RH x /\ XL x /\ Bj x /\ Aj a_2 a /\ FX /\ FX /\ a_2.o.lo =
 a.o.lo /\ a_2.o.hi = a.t) /\ Ar x a_2 a else ∃ (a_2 : TOs), (RA x /\ RH x /\ XL x /\ Bj x /\ Aj a_2 a /\ FX /\ FX /\ a_2.o.lo = a.o.lo /\ a_2.o.hi = a.o.hi) /\ Ar x a_2
 a else (EN x).fst.lo = a.o.lo /\ (EN x).fst.hi = a.o.hi /\ (EN x).snd = (0 : Int)) := by kernel_rfl
def dGBw : List AVal -> Heap -> Option (GBw × List (Nat × Nat) × List Nat)
 | [x, y, .d t, .d u], H => match Bc x H, XT y H with
  | some (l, f), some (m, e) => some (⟨⟨l, m⟩, DH t, DH u⟩, [], f ++ e)
  | _, _ => none
 | _, _ => none
def xGBw (x : GBw) : List AVal := [.d (AS x.a.g), .d (BC x.a.b), .int x.f, .int x.t]
def C_Wid : Ctr := { α := GBw, xs := xGBw, L := λ _ => [], val := λ x => .tup [.int (Jh x).1, .int (Jh x).2], keep := λ _ => [], pre := λ x => [x.a.g.length < 1073741824 /\ x.a.b.length < 1073741824] }
structure WdA where
 n : Nat
 o : Int
 r : Rt
 deriving Inhabited
def wdC (x : GBw) : Nat := (x.t - x.f + 1).toNat
def wdR (x : GBw) (y : WdA) : Prop := (AH x.a = 0 /\ I7 x = true) /\ y.n <= wdC x /\ Jh x = wdS x.a (wdC x - y.n) (x.f + y.n) y.o y.r
def rw9 (x : GBw) : Shape := { α := WdA, dflt := default, T := λ y => ⟨[(0, .d (AS x.a.g)), (1, .d (BC x.a.b)), (2, .int x.f), (3, .int x.t), (11, .int y.o), (12, .bptr 8000 0), (13, .int (x.f + y.n))], [(8000, .live (.box [.int y.r.n, .int y.r.d]))]⟩, inv := λ y => (y.n = 0 /\ y.o = x.f /\ wdR x ⟨0, y.o, ⟨-1, 1⟩⟩ /\ y.r = ⟨0, 0⟩) ∨ (y.n ≠ 0 /\ wdR x y), meas := λ y => wdC x - y.n }
def CEU (x : GBw) : Ann := { ann 87 [(ZC, C_rAsk.spec dGB), (Fi, Mi), (wX, C_rFlow.spec Yi), (aC, OX), (Ok, gX)] with loops := λ id => if id = 9 then some [rw9 x] else none }
def CGL (x : GBw) : Prop := AN Try.prog (CEU x) BQK (AF BQK) (xGBw x) (AC []) (C_Wid.val x) [] [] []
abbrev Ow (x : GBw) : List Gau := AE x.a.g.length λ (i : Nat) => gD x.a.g i
abbrev sP (x : GBw) : Nat := (Ow x).length
abbrev AVH (x : GBw) : Prop := sP x = x.a.g.length
abbrev rT (x : GBw) (i : Nat) : Gau := gD (Ow x) i
abbrev AYS (x : GBw) : Prop := ∀ (i : Nat), i < sP x -> (rT x i).st = (gD x.a.g i).st /\ (rT x i).lo = (gD x.a.g i).lo /\ (rT x i).hi = (gD x.a.g i).hi
abbrev Nm (x : GBw) : List Int := AE x.a.b.length λ (i : Nat) => gD x.a.b i
abbrev rR (x : GBw) : Nat := (Nm x).length
abbrev ANM (x : GBw) : Prop := rR x = x.a.b.length
abbrev ARU (x : GBw) : Prop := ∀ (i : Nat), i < rR x -> gD (Nm x) i = gD x.a.b i
abbrev BAF (x : GBw) : Prop := sP x < 1073741824 /\ rR x < 1073741824
abbrev ABD (x : GBw) : Int := AH (GB.mk (Ow x) (Nm x))
abbrev Tc (x : GBw) : Prop := (Jh x).fst = 0
abbrev Xs (x : GBw) : Prop := x.a.g.length = x.a.g.length
abbrev Wo (x : GBw) : Prop := ∀ (i : Nat), i < x.a.g.length -> (gD x.a.g i).st = (gD x.a.g i).st /\ (gD x.a.g i).lo = (gD x.a.g i).lo /\ (gD x.a.g i).hi = (gD x.a.g i).hi
abbrev Wx (x : GBw) : Prop := x.a.b.length = x.a.b.length
abbrev Td (x : GBw) : Prop := ∀ (i : Nat), i < x.a.b.length -> gD x.a.b i = gD x.a.b i
abbrev HI (x : GBw) (a : WdA) : Int := x.f + (↑a.n : Int)
abbrev Wj (a : WdA) (x : GBw) : Prop := a.n = 0 /\ a.o = x.f /\ wdR x (WdA.mk 0 a.o (Rt.mk (-1) 1)) /\ a.r = Rt.mk 0 0 ∨ a.n ≠ 0 /\ wdR x a
abbrev AAC (x : GBw) (a : WdA) : GBt := GBt.mk (Ow x) (Nm x) (HI x a)
abbrev ACY (x : GBw) (a : WdA) : Int := BD (AAC x a)
abbrev ACG (x : GBw) (a : WdA) : Bnd := AU (AAC x a)
abbrev U4 (x : GBw) (a : WdA) : Rt := (ACG x a).hi
abbrev P6 (x : GBw) (a : WdA) : Int := (U4 x a).d
abbrev ACS (x : GBw) (a : WdA) : Rt := (ACG x a).lo
abbrev V9 (x : GBw) (a : WdA) : Int := (ACS x a).d
abbrev Wf (x : GBw) (a : WdA) : Int := IntKind.i64.wrap (P6 x a * V9 x a)
abbrev Wc (x : GBw) (a : WdA) : Int := IntKind.i64.wrap (IntKind.i64.wrap ((U4 x a).n * V9 x a) - IntKind.i64.wrap ((ACS x a).n * P6 x a))
abbrev Wp (x : GBw) (a : WdA) : Rt := FD (Wc x a) (Wf x a)
abbrev Q0 (x : GBw) (a : WdA) (a1 : WdA) : Prop := HI x a = IntKind.i64.wrap (HI x a1 + 1)
abbrev J7 (x : GBw) (a : WdA) : Nat := wdC x - a.n
abbrev P4 (a : WdA) (x : GBw) (a1 : WdA) : Prop := Wj a x /\ J7 x a < J7 x a1
theorem CNS (x : GBw) : (CGL x) = ((AVH x /\ AYS x /\ ANM x /\ ARU x /\ BAF x) /\ bif ABD x != 0 then Tc x /\ (Jh x).snd = ABD x else bif bif bif !BY x.f 0 2000 then true
 else !BY x.t x.f 2000 then true else decide (IntKind.i64.wrap (x.t - x.f) > 199) then Tc x /\ (Jh x).snd = 4 else (∃ (a : WdA), (Xs x /\ Wo x /\ Wx x /\ Td x /\ x.f = x.f /\ x.t = x.t /\ a.o
 = x.f /\ HI x a = x.f /\ a.r.n = 0 /\ a.r.d = 0) /\ Wj a x) /\ ∀ (a : WdA), Wj a x -> bif decide (HI x a <= x.t) then (AVH x /\ AYS x /\ ANM x /\ ARU x /\ HI x a = HI x
 a /\ BAF x) /\ bif ACY x a != 0 then Tc x /\ (Jh x).snd = ACY x a else (0 < Wf x a /\ Wf x a <= 2305843009213693952 /\ -2305843009213693952 <= Wc x a /\ Wc x a <=
 2305843009213693952) /\ bif bif HI x a == x.f then true else UX a.r (Wp x a) then ∃ (a_2 : WdA), (Xs x /\ Wo x /\ Wx x /\ Td x /\ x.f = x.f /\ x.t = x.t /\ a_2.o = HI x a /\
 Q0 x a_2 a /\ a_2.r.n = (Wp x a).n /\ a_2.r.d = (Wp x a).d) /\ P4 a_2 x a else ∃ (a_2 : WdA), (Xs x /\ Wo x /\ Wx x /\ Td x /\ x.f = x.f /\ x.t = x.t /\ a_2.o = a.o /\
 Q0 x a_2 a /\ a_2.r.n = a.r.n /\ a_2.r.d = a.r.d) /\ P4 a_2 x a else (Jh x).fst = a.o /\ (Jh x).snd = 0) := by kernel_rfl
def wdH (x : GBw) : Nat -> (Int -> Bool) × (Int -> Int)
 | 0 => (λ _ => false, λ _ => 0)
 | n + 1 => (GN (wdH x n).1 (ET x.a.b (x.f + n)), Qj (wdH x n).1 (wdH x n).2 (ET x.a.b (x.f + n)))
def UU (x : GBw) (n : Nat) : Bk := ⟨x.a.g, x.a.b, (wdH x n).1, (wdH x n).2⟩
def wd8 (x : GBw) : Shape := { α := WdA, dflt := default, T := λ y => ⟨[(3, .int x.t), (10, .bptr 2032 0), (12, .int y.o), (13, .bptr 7032 0), (14, .int (x.f + y.n))], bkH (UU x y.n) 2032 2033 ++ [(7032, .live (.box [.int y.r.n, .int y.r.d]))]⟩, inv := λ y => wdR x y, meas := λ y => wdC x - y.n }
def G_wd (c : Sym.Spec) : List (FuncId × Sym.Spec) := [(QA, c), (sE, Q7), (PL, C_bnd.spec dBkt), (pZ, OX), (ATR, C_more.spec d0), (FG, AJK)]
def CPU (x : GBw) : Ann := { ann 93 (G_wd (C_open.spec dGB)) with loops := λ id => if id = 8 then some [wd8 x] else none }
def COP : Ann := { ann 93 (G_wd (C_openX.spec dGB)) with cut := λ id => if id = 6 then some [] else none }
def CQG (x : GBw) : Prop := AN Try.prog (CPU x) Pn (AF Pn) (xGBw x) (AC []) (C_Wid.val x) [] [] []
abbrev AIE (x : GBw) : List Gau := AE x.a.g.length λ (i : Nat) => gD x.a.g i
abbrev AHG (x : GBw) : Nat := (AIE x).length
abbrev AJJ (x : GBw) (i : Nat) : Gau := gD (AIE x) i
abbrev AIN (x : GBw) : List Int := AE x.a.b.length λ (i : Nat) => gD x.a.b i
abbrev AII (x : GBw) : Nat := (AIN x).length
abbrev BGK (x : GBw) : GB := GB.mk (AIE x) (AIN x)
abbrev BIH (x : GBw) : Prop := (Jh x).fst = 0
abbrev IE (x : GBw) (a : WdA) : Int := x.f + (↑a.n : Int)
abbrev sI (x : GBw) : Bk := AP (BGK x)
abbrev BHQ (x : GBw) : List Gau := (sI x).g
abbrev qZ (i : Nat) (x : GBw) (a : WdA) : Prop := i < (UU x a.n).g.length
abbrev Bh (x : GBw) (a : WdA) (i : Nat) : Int := (gD (UU x a.n).g i).st
abbrev pW (x : GBw) (i : Nat) : Gau := gD (BHQ x) i
abbrev Ad (x : GBw) (a : WdA) (i : Nat) : Int := (gD (UU x a.n).g i).lo
abbrev ZV (x : GBw) (a : WdA) (i : Nat) : Int := (gD (UU x a.n).g i).hi
abbrev AQI (x : GBw) : List Int := (sI x).b
abbrev wH (i : Nat) (x : GBw) (a : WdA) : Prop := i < (UU x a.n).b.length
abbrev ALO : Value := Value.slice none 0 0
abbrev Pq : Prop := ALO = ALO
abbrev ARS (x : GBw) (n : Int) : List Ln := AK (sI x) n
abbrev AUY (i : Nat) (x : GBw) (a : WdA) (n : Int) : Prop := i < (AK (UU x a.n) n).length
abbrev Po (x : GBw) (a : WdA) (n : Int) (i : Nat) : Ln := gD (AK (UU x a.n) n) i
abbrev vG (x : GBw) (a : WdA) (n : Int) (i : Nat) : Int := (Po x a n i).a0
abbrev Ls (x : GBw) (n : Int) (i : Nat) : Ln := gD (ARS x n) i
abbrev xD (x : GBw) (a : WdA) (n : Int) (i : Nat) : Int := (Po x a n i).a1
abbrev sM (x : GBw) (a : WdA) (n : Int) (i : Nat) : Int := (Po x a n i).b0
abbrev pU (x : GBw) (a : WdA) (n : Int) (i : Nat) : Int := (Po x a n i).b1
abbrev xJ (x : GBw) (a : WdA) : Nat := wdC x - a.n
abbrev uK (x : GBw) (a : WdA) : Prop := (AH x.a = 0 /\ I7 x = true) /\ a.n <= wdC x /\ Jh x = wdS x.a (xJ x a) (IE x a) a.o a.r
abbrev Kj (x : GBw) (a : WdA) : List Gau := AE (UU x a.n).g.length λ (i : Nat) => gD (UU x a.n).g i
abbrev rA (x : GBw) (a : WdA) : Nat := (Kj x a).length
abbrev vX (x : GBw) (a : WdA) (i : Nat) : Gau := gD (Kj x a) i
abbrev YA (x : GBw) (a : WdA) : List Int := AE (UU x a.n).b.length λ (i : Nat) => gD (UU x a.n).b i
abbrev tL (x : GBw) (a : WdA) : Nat := (YA x a).length
abbrev oG (x : GBw) (a : WdA) : Bk := Bk.mk (Kj x a) (YA x a) (UU x a.n).has (UU x a.n).st
abbrev APB (x : GBw) (a : WdA) (n : Int) : List Ln := AK (oG x a) n
abbrev AOD (x : GBw) (a : WdA) (n : Int) : Nat := (APB x a n).length
abbrev Kg (x : GBw) (a : WdA) (n : Int) (i : Nat) : Ln := gD (APB x a n) i
abbrev ASL (x : GBw) (a : WdA) : BkT := BkT.mk (oG x a) (IE x a)
abbrev XS (x : GBw) (a : WdA) : Bk := CF (oG x a) (kB (ASL x a))
abbrev AOR (x : GBw) (a : WdA) : List Gau := (XS x a).g
abbrev qK (x : GBw) (a : WdA) (i : Nat) : Gau := gD (AOR x a) i
abbrev ANV (x : GBw) (a : WdA) : List Int := (XS x a).b
abbrev AKQ (x : GBw) (a : WdA) : List Ln := lB (ASL x a)
abbrev AXO (x : GBw) (a : WdA) : Bnd := SI (AKQ x a) (IE x a)
abbrev AVL (x : GBw) (a : WdA) : Rt := (AXO x a).hi
abbrev AKI (x : GBw) (a : WdA) : Int := (AVL x a).d
abbrev AKG (x : GBw) (a : WdA) : Rt := (AXO x a).lo
abbrev AUA (x : GBw) (a : WdA) : Int := (AKG x a).d
abbrev oU (x : GBw) (a : WdA) : Int := IntKind.i64.wrap (AKI x a * AUA x a)
abbrev vQ (x : GBw) (a : WdA) : Int := IntKind.i64.wrap (IntKind.i64.wrap ((AVL x a).n * AUA x a) - IntKind.i64.wrap ((AKG x a).n * AKI x a))
abbrev vK (x : GBw) (a : WdA) : Rt := FD (vQ x a) (oU x a)
abbrev AZT (x : GBw) (a : WdA) (a1 : WdA) : Prop := IE x a = IntKind.i64.wrap (IE x a1 + 1)
abbrev AKO (x : GBw) (a : WdA) (a1 : WdA) : Prop := (UU x a.n).g.length = (UU x a1.n).g.length
abbrev AUR (x : GBw) (a : WdA) (a1 : WdA) : Prop := ∀ (i : Nat), qZ i x a -> Bh x a i = Bh x a1 i /\ Ad x a i = Ad x a1 i /\ ZV x a i = ZV x a1 i
abbrev AQL (x : GBw) (a : WdA) (a1 : WdA) : Prop := (UU x a.n).b.length = (UU x a1.n).b.length
abbrev AYV (x : GBw) (a : WdA) (a1 : WdA) : Prop := ∀ (i : Nat), wH i x a -> gD (UU x a.n).b i = gD (UU x a1.n).b i
abbrev AYF (x : GBw) (a : WdA) (a1 : WdA) : Prop := ∀ (n : Int), (UU x a.n).has n = (XS x a1).has n
abbrev AXS (x : GBw) (a : WdA) (a1 : WdA) : Prop := ∀ (n : Int), (UU x a.n).st n = (XS x a1).st n
abbrev AMJ (x : GBw) (a : WdA) (n : Int) : List Ln := AK (XS x a) n
abbrev Pw (x : GBw) (a : WdA) (n : Int) (i : Nat) : Ln := gD (AMJ x a n) i
abbrev ASK (x : GBw) (a : WdA) (a1 : WdA) : Prop := ∀ (n : Int), (AK (UU x a.n) n).length = (AMJ x a1 n).length /\ ∀ (i : Nat), AUY i x a n -> vG x a n i = (Pw x a1 n i).a0 /\ xD x a n i =
 (Pw x a1 n i).a1 /\ sM x a n i = (Pw x a1 n i).b0 /\ pU x a n i = (Pw x a1 n i).b1
abbrev BAP (x : GBw) (a : WdA) (a1 : WdA) : Prop := uK x a /\ xJ x a < xJ x a1
theorem CSB (x : GBw) : (CQG x) = ((AHG x = x.a.g.length /\ (∀ (i : Nat), i < AHG x -> (AJJ x i).st = (gD x.a.g i).st /\ (AJJ x i).lo = (gD x.a.g i).lo /\ (AJJ x i).hi = (gD x.a.g i).hi) /\ AII x
 = x.a.b.length /\ (∀ (i : Nat), i < AII x -> gD (AIN x) i = gD x.a.b i) /\ AHG x < 4611686018427387904 /\ AII x < 4611686018427387904 /\ AH (BGK x) = 0) /\ bif bif 0 == 0 then bif bif !BY x.f 0 2000
 then true else !BY x.t x.f 2000 then true else decide (IntKind.i64.wrap (x.t - x.f) >= 200) else false then BIH x /\ (Jh x).snd = 4 else (∃ (a : WdA), (x.t = x.t /\ a.o = x.f /\ IE x a = x.f /\ (UU x a.n).g.length
 = (BHQ x).length /\ (∀ (i : Nat), qZ i x a -> Bh x a i = (pW x i).st /\ Ad x a i = (pW x i).lo /\ ZV x a i = (pW x i).hi) /\ (UU x a.n).b.length = (AQI x).length /\ (∀ (i :
 Nat), wH i x a -> gD (UU x a.n).b i = gD (AQI x) i) /\ Pq /\ (∀ (n : Int), (UU x a.n).has n = false) /\ (∀ (n : Int), (UU x a.n).st n = (sI x).st n) /\ (∀ (n : Int), (AK (UU x a.n) n).length =
 (ARS x n).length /\ ∀ (i : Nat), AUY i x a n -> vG x a n i = (Ls x n i).a0 /\ xD x a n i = (Ls x n i).a1 /\ sM x a n i = (Ls x n i).b0 /\ pU x a n i = (Ls x n i).b1) /\
 a.r.n = -1 /\ a.r.d = 1) /\ uK x a) /\ ∀ (a : WdA), uK x a -> bif decide (IE x a <= x.t) then (IE x a = IE x a /\ rA x a = (UU x a.n).g.length /\ (∀ (i : Nat), i < rA x a -> (vX x a
 i).st = Bh x a i /\ (vX x a i).lo = Ad x a i /\ (vX x a i).hi = ZV x a i) /\ tL x a = (UU x a.n).b.length /\ (∀ (i : Nat), i < tL x a -> gD (YA x a) i = gD (UU x a.n).b i) /\
 Pq /\ (∀ (n : Int), (UU x a.n).has n = (UU x a.n).has n) /\ (∀ (n : Int), (UU x a.n).st n = (UU x a.n).st n) /\ (∀ (n : Int), AOD x a n = (AK (UU x a.n) n).length /\ ∀ (i : Nat), i < AOD x a n ->
 (Kg x a n i).a0 = vG x a n i /\ (Kg x a n i).a1 = xD x a n i /\ (Kg x a n i).b0 = sM x a n i /\ (Kg x a n i).b1 = pU x a n i) /\ (UU x a.n).g.length = (AOR x a).length /\
 (∀ (i : Nat), qZ i x a -> Bh x a i = (qK x a i).st /\ Ad x a i = (qK x a i).lo /\ ZV x a i = (qK x a i).hi) /\ (UU x a.n).b.length = (ANV x a).length /\ (∀ (i : Nat), wH i
 x a -> gD (UU x a.n).b i = gD (ANV x a) i) /\ (rA x a <= 24 /\ (∀ (x_1 : Gau), List.Mem x_1 (Kj x a) -> 0 <= x_1.st /\ x_1.st <= 2000 /\ 0 <= x_1.lo /\ x_1.lo <= x_1.hi /\ x_1.hi <= 200000) /\ tL x a <= 24 /\
 List.Pairwise (λ (x1 x2 : Int) => x1 < x2) (YA x a) /\ ∀ (x_1 : Int), List.Mem x_1 (YA x a) -> 1 <= x_1 /\ x_1 <= 2000) /\ 0 <= IE x a /\ IE x a <= 2000) /\ bif !decide ((AKQ x a).length ≠ 0) then
 BIH x /\ (Jh x).snd = 6 else (0 < oU x a /\ oU x a <= 2305843009213693952 /\ -2305843009213693952 <= vQ x a /\ vQ x a <= 2305843009213693952) /\ bif decide (YB (vK x a) a.r > 0) then ∃ (a_2 :
 WdA), (x.t = x.t /\ a_2.o = IE x a /\ AZT x a_2 a /\ AKO x a_2 a /\ AUR x a_2 a /\ AQL x a_2 a /\ AYV x a_2 a /\ Pq /\ AYF x a_2 a /\ AXS x a_2 a /\ ASK x a_2 a /\ a_2.r.n =
 (vK x a).n /\ a_2.r.d = (vK x a).d) /\ BAP x a_2 a else ∃ (a_2 : WdA), (x.t = x.t /\ a_2.o = a.o /\ AZT x a_2 a /\ AKO x a_2 a /\ AUR x a_2 a /\ AQL x a_2 a /\ AYV x a_2 a /\ Pq /\
 AYF x a_2 a /\ AXS x a_2 a /\ ASK x a_2 a /\ a_2.r.n = a.r.n /\ a_2.r.d = a.r.d) /\ BAP x a_2 a else (Jh x).fst = a.o /\ (Jh x).snd = 0) := by kernel_rfl
def COM (x : GBw) : Prop := AN Try.prog COP Pn (AF Pn) (xGBw x) (AC []) (C_Wid.val x) [] [] []
theorem CRY (x : GBw) : (COM x) = (((AE x.a.g.length λ (i : Nat) => gD x.a.g i).length = x.a.g.length /\ (∀ (i : Nat), i < (AE x.a.g.length λ (i : Nat) => gD x.a.g i).length -> (gD (AE x.a.g.length λ (i :
 Nat) => gD x.a.g i) i).st = (gD x.a.g i).st /\ (gD (AE x.a.g.length λ (i : Nat) => gD x.a.g i) i).lo = (gD x.a.g i).lo /\ (gD (AE x.a.g.length λ (i : Nat) => gD x.a.g i) i).hi = (gD x.a.g i).hi) /\ (AE x.a.b.length
 λ (i : Nat) => gD x.a.b i).length = x.a.b.length /\ (∀ (i : Nat), i < (AE x.a.b.length λ (i : Nat) => gD x.a.b i).length -> gD (AE x.a.b.length λ (i : Nat) => gD x.a.b i) i = gD x.a.b i) /\ (AE x.a.g.length λ (i
 : Nat) => gD x.a.g i).length < 4611686018427387904 /\ (AE x.a.b.length λ (i : Nat) => gD x.a.b i).length < 4611686018427387904 /\ AH (GB.mk (AE x.a.g.length λ (i : Nat) => gD x.a.g i) (AE x.a.b.length λ (i :
 Nat) => gD x.a.b i)) ≠ 0) /\ bif bif AH (GB.mk (AE x.a.g.length λ (i : Nat) => gD x.a.g i) (AE x.a.b.length λ (i : Nat) => gD x.a.b i)) == 0 then bif bif !BY x.f 0 2000 then true else !BY x.t x.f 2000 then true
 else decide (IntKind.i64.wrap (x.t - x.f) >= 200) else false then ((Jh x).fst = 0 /\ (Jh x).snd = 4) /\ True else (bif AH (GB.mk (AE x.a.g.length λ (i : Nat) => gD x.a.g i) (AE x.a.b.length λ (i : Nat) => gD
 x.a.b i)) != 0 then (Jh x).fst = 0 /\ (Jh x).snd = AH (GB.mk (AE x.a.g.length λ (i : Nat) => gD x.a.g i) (AE x.a.b.length λ (i : Nat) => gD x.a.b i)) else False) /\ True) := by kernel_rfl
theorem BOQ {p n : Nat} (hn : n < 1073741824) (h : p <= n) (h0 : (p : Int) > 0) : IntKind.i64.wrap ((p : Int) - 1) = ((p - 1 : Nat) : Int) := by
 rw [EV (by omega) (by omega)]; omega
theorem CTK (x : GBf) (h1 : x.a.g.length < 1073741824) (h2 : x.a.b.length < 1073741824) : CGU x := by
 rw [CKS]; delta ZN rD uO xO tR Au rC wS wJ oI zS Aq WW ES EQ EU EM FZ zF XC Tq yY ABZ XW Bx Vm AEC Tt Vi N1 yI C5 To Ru IZ N0 MU X1 Y2 ACO WK YV Tv YZ Al AAY MY AAO ZS N9 zW OC L1 NF NL I5 WJ ADF Ug Bo Yb T6 Wt Xz yZ ABR Xp R8 St; simp only [CC, eq_self, implies_true, forall_const, show GB.mk x.a.g x.a.b = x.a from rfl]
 have er : ∀ {n : Int}, CA x = (default, n) -> (CA x).1.lo = 0 /\ (CA x).1.hi = 0 /\ (CA x).2 = n := λ {n} e => by rw [e]; exact ⟨rfl, rfl, rfl⟩
 refine ⟨⟨h1, h2⟩, λ hE => er ?_, λ hE => ⟨λ hf => er ?_, λ hf => ⟨⟨0, rfl, ⟨by simpa using hE, hf⟩, Nat.zero_le _, λ j hj => absurd hj (Nat.not_lt_zero _)⟩, λ p ⟨⟨p1, p2⟩, p3, p4⟩ => ⟨λ hle => ⟨⟨⟨h1, h2⟩, ?_, ?_, As _ _ _⟩, λ hn => er ?_, λ hy => ⟨p + 1, (BF (by omega)).symm, ⟨⟨p1, p2⟩, by omega, λ j hj => ?_⟩, by omega⟩⟩, λ hgt => ⟨⟨⟨0, 0, default, false⟩, ⟨rfl, rfl, rfl, rfl⟩, ⟨⟨CJI p1 λ j hj => p4 j (by omega), ?_⟩, rfl⟩, Nat.zero_le _, ⟨CVS _ _ _⟩⟩, λ y ⟨⟨y1, y2⟩, y3, y4⟩ => ⟨λ hle2 => ⟨⟨h1, h2⟩, ⟨λ hp => ⟨⟨by rw [BOQ h2 (by omega) hp]; omega, by rw [BOQ h2 (by omega) hp]; omega⟩, ⟨y.p, 0, y.o, y.m⟩, ⟨rfl, rfl, rfl, λ _ _ => ⟨rfl, rfl, rfl⟩, ?_, rfl, rfl⟩, ⟨y1, rfl, rfl⟩, by show y.p <= _; omega, y4⟩, λ hp => ⟨⟨y.p, 0, y.o, y.m⟩, ⟨rfl, rfl, rfl, λ _ _ => ⟨rfl, rfl, rfl⟩, ?_, rfl, rfl⟩, ⟨y1, rfl, rfl⟩, by show y.p <= _; omega, y4⟩⟩, λ z ⟨⟨z1, z2, z3⟩, z4, z5⟩ => ⟨⟨λ hp => ⟨⟨by omega, by omega⟩, ⟨z.p, 0, z.o, z.m⟩, ⟨rfl, rfl, rfl, λ _ _ => ⟨rfl, rfl, rfl⟩, rfl, ?_, rfl, rfl⟩, ⟨z1, rfl, z3⟩, z4, z5⟩, λ hp => ⟨⟨z.p, 0, z.o, z.m⟩, ⟨rfl, rfl, rfl, λ _ _ => ⟨rfl, rfl, rfl⟩, rfl, ?_, rfl, rfl⟩, ⟨z1, rfl, z3⟩, z4, z5⟩⟩, λ v ⟨⟨v1, v2, v3⟩, v4, v5⟩ => ⟨⟨⟨v.p, (CX x.a.b v.p).lo, v.o, v.m⟩, ⟨rfl, rfl, rfl, λ _ _ => ⟨rfl, rfl, rfl⟩, rfl, rfl, rfl, rfl⟩, ⟨v1, v3⟩, v4, ⟨Int.le_refl _, ?_⟩, ?_⟩, λ w ⟨⟨w1, w2⟩, w3, ⟨w4, w5⟩, w6⟩ => ⟨λ hle3 => ⟨⟨?_, ?_, As _ _ _, ?_, ?_⟩, λ hb => ?_, λ hb => ⟨λ hm => ?_, λ hm => ?_⟩⟩, λ hgt3 => ⟨⟨w.p + 1, 0, w.o, w.m⟩, ⟨rfl, (BF (by omega)).symm, rfl, rfl⟩, ⟨⟨w1, rfl⟩, by show w.p + 1 <= _; omega, ?_⟩, by show x.a.b.length + 1 - (w.p + 1) < _; omega⟩⟩⟩⟩⟩, λ hgt2 => ⟨λ hm => ?_, λ hm => ?_⟩⟩⟩⟩⟩⟩⟩
 ·have e : (AH x.a == 0) = false := by simpa using hE
  unfold CA; rw [e]; rfl
 ·have e : (AH x.a == 0) = true := by simpa using hE
  unfold CA; rw [e, show inF x = false from hf]; rfl
 ·have := Oc x.a.g x.a.b p; omega
 ·exact Rk (UG p1)
 ·exact CKX p1 p2 (by omega) hn
 ·by_cases e : j = p
  ·rw [e]; exact hy
  ·exact p4 j (by omega)
 ·unfold inF BY at p2; simpa using p2
 ·rw [BOQ h2 (by omega) hp, Int.toNat_natCast, fS, if_pos (show 0 < y.p by omega)]
 ·rw [fS, if_neg (show ¬0 < y.p by omega)]
 ·have := z1.th.brk _ (BM (l := x.a.b) (k := z.p) (by omega))
  rw [E5 z1.th.brk, if_pos (show z.p < x.a.b.length by omega), EV (by omega) (by omega)]
 ·rw [E5 z1.th.brk, if_neg (show ¬z.p < x.a.b.length by omega)]
 ·have := (v1.th.span v4).2.1
  show (CX x.a.b v.p).lo <= (CX x.a.b v.p).hi + 1; omega
 ·show StI _ _ _ (CX x.a.b v.p).lo _ _
  rw [<- CVI (l := x.a.g) v4]; exact v5
 ·have := Oc x.a.g x.a.b w.p; omega
 ·exact Rk w1.th.ok
 ·exact (BNN _ _ _).2 (w1.th.can w.p w3)
 ·have := w1.th.span w3; exact ⟨by omega, by omega⟩
 ·have hs := w1.th.span w3
  have hn : ¬Ol x.a.g x.a.b x.f w.t := λ q => by
   have e := (BHK w1.th w1.f w3 w4 hle3).2 q
   rw [show (bif PI (qR x.f) (FU (DP x.a.g x.a.b w.p) w.t).lo then true else PI (FU (DP x.a.g x.a.b w.p) w.t).hi (qR x.f)) = true from hb] at e; cases e
  have wt : IntKind.i64.wrap (w.t + 1) = w.t + 1 := EV (by omega) (by omega)
  exact ⟨⟨w.p, w.t + 1, w.o, w.m⟩, ⟨rfl, rfl, rfl, λ _ _ => ⟨rfl, rfl, rfl⟩, rfl, wt.symm, rfl, rfl⟩, ⟨⟨w1, w2⟩, w3, ⟨by show (CX x.a.b w.p).lo <= w.t + 1; omega, by show w.t + 1 <= (CX x.a.b w.p).hi + 1; omega⟩, ⟨CIV w6.is hn⟩⟩, by show ((CX x.a.b w.p).hi + 1 - (w.t + 1)).toNat < _; omega⟩
 ·have hs := w1.th.span w3
  have hn : Ol x.a.g x.a.b x.f w.t := (BHK w1.th w1.f w3 w4 hle3).1 hb
  have wt : IntKind.i64.wrap (w.t + 1) = w.t + 1 := EV (by omega) (by omega)
  have := CAR (by omega) w6.is hn
  rw [hm] at this
  exact ⟨⟨w.p, w.t + 1, ⟨w.t, w.t⟩, true⟩, ⟨rfl, rfl, rfl, λ _ _ => ⟨rfl, rfl, rfl⟩, rfl, wt.symm, rfl, rfl⟩, ⟨⟨w1, w2⟩, w3, ⟨by show (CX x.a.b w.p).lo <= w.t + 1; omega, by show w.t + 1 <= (CX x.a.b w.p).hi + 1; omega⟩, ⟨this⟩⟩, by show ((CX x.a.b w.p).hi + 1 - (w.t + 1)).toNat < _; omega⟩
 ·have hs := w1.th.span w3
  have hn : Ol x.a.g x.a.b x.f w.t := (BHK w1.th w1.f w3 w4 hle3).1 hb
  have wt : IntKind.i64.wrap (w.t + 1) = w.t + 1 := EV (by omega) (by omega)
  have := CAR (by omega) w6.is hn
  rw [hm] at this
  exact ⟨⟨w.p, w.t + 1, ⟨w.o.lo, w.t⟩, true⟩, ⟨rfl, rfl, rfl, λ _ _ => ⟨rfl, rfl, rfl⟩, rfl, wt.symm, rfl, rfl⟩, ⟨⟨w1, w2⟩, w3, ⟨by show (CX x.a.b w.p).lo <= w.t + 1; omega, by show w.t + 1 <= (CX x.a.b w.p).hi + 1; omega⟩, ⟨this⟩⟩, by show ((CX x.a.b w.p).hi + 1 - (w.t + 1)).toNat < _; omega⟩
 ·show StI _ _ _ (tP x.a.b (w.p + 1)) _ _
  rw [CMU w1.th.brk w3, show (CX x.a.b w.p).hi + 1 = w.t by omega]; exact w6
 ·have e : tP x.a.b y.p = 2001 := by unfold tP; rw [if_neg (by omega), if_neg (by omega)]
  have := y4.is
  rw [e] at this
  have E := BXL y1.th y1.f this
  rw [hm] at E
  exact er E
 ·have e : tP x.a.b y.p = 2001 := by unfold tP; rw [if_neg (by omega), if_neg (by omega)]
  have := y4.is
  rw [e] at this
  have E := BXL y1.th y1.f this
  rw [hm] at E
  rw [show CA x = (y.o, 0) from E]; exact ⟨rfl, rfl, rfl⟩
theorem CKT : AG Try.prog BPX (C_rStg.spec dGBf) := HR C_rStg CAU [] [] CMN (λ _ => by kernel_rfl) (λ _ => AB AGU (AB Uu (AB AHK (AB BRP (AB BRY (AB rB AD)))))) (λ (x : GBf) h => CTK x h.1 h.2) (λ _ => IN rfl rfl) _
theorem CCX {x : GB} (hE : AH x = 0) {t : Int} (h0 : 0 <= t) : ((ET x.b t : Int) = 0 /\ t <= 2000) ↔ t <= (CX x.b 0).hi := by
 have hb := HP hE
 obtain ⟨s1, s2, s3, s4⟩ : 0 <= (CX x.b 0).lo /\ (CX x.b 0).lo <= (CX x.b 0).hi /\ (CX x.b 0).hi <= 2000 /\ ∀ m : Int, (CX x.b 0).lo <= m -> m <= (CX x.b 0).hi -> (ET x.b m : Int) = 0 := JA (w := AP x) (k := 0) hb (Int.le_refl _) (Int.natCast_nonneg _)
 have z0 : (CX x.b 0).lo = 0 := by rw [fS]; rfl
 constructor
 ·rintro ⟨h1, h2⟩
  rw [E5 hb.2.2.2.2]
  by_cases hl : 0 < x.b.length
  ·rw [if_pos hl]
   have := (CCU (t := t) hb.2.2.2.1).2 0 (by omega) hl
   omega
  ·rw [if_neg hl]; exact h2
 ·intro h
  exact ⟨s4 t (by omega) h, by omega⟩
theorem CTO (x : GB) (h1 : x.g.length < 1073741824) (h2 : x.b.length < 1073741824) : CBK x := by
 rw [CMO]; delta Oq oT AWO rO APS YF wT rH uA AWW M9 T1 ABN B5 AEQ Tw ZJ YN Ty yG Vr Xf AAR xX X8 N5 RA RH Xe LZ C3 ZD Am Bs Cf FX AAI AAD Sb ABJ YH Sf AFE Tg Rr E6 X6 ACK XL Bj Aj ADP Ar; simp only [CC, eq_self, implies_true, forall_const, show GB.mk x.g x.b = x from rfl]
 have er : ∀ {n : Int}, EN x = (default, n) -> (EN x).1.lo = 0 /\ (EN x).1.hi = 0 /\ (EN x).2 = n := λ {n} e => by rw [e]; exact ⟨rfl, rfl, rfl⟩
 have hl : (DP x.g x.b 0).length < 1073741824 := by have := Oc x.g x.b 0; omega
 refine ⟨⟨h1, h2⟩, λ hE => er ?_, λ hE => ?_⟩
 ·have e : (AH x == 0) = false := by simpa using hE
  unfold EN; rw [e]; rfl
 ·have hE0 : AH x = 0 := by simpa using hE
  have ho : ∀ g ∈ DP x.g x.b 0, DJ g := Rk (UG hE0)
  refine ⟨⟨rfl, h1, h2⟩, ⟨hl, ho, As _ _ _⟩, λ hn => er ?_, λ hy => ?_⟩
  ·unfold EN; rw [show (AH x == 0) = true by simpa using hE, decide_eq_true (CQO hE0 (p := 0) (Nat.zero_le _) hn)]; rfl
  ·obtain ⟨d1, ⟨d2, d3, d4⟩, d5⟩ := dry0 hE0 hy
   generalize (EN x).1 = D at *
   have hs : 0 <= (CX x.b 0).hi /\ (CX x.b 0).hi <= 2000 := by
    have := (CCX hE0 (t := 0) (Int.le_refl _))
    obtain ⟨s1, s2, s3, s4⟩ : 0 <= (CX x.b 0).lo /\ (CX x.b 0).lo <= (CX x.b 0).hi /\ (CX x.b 0).hi <= 2000 /\ _ := JA (w := AP x) (k := 0) (HP hE0) (Int.le_refl _) (Int.natCast_nonneg _)
    omega
   refine ⟨⟨⟨0, ⟨-1, -1⟩⟩, ⟨rfl, rfl, rfl⟩, ⟨hE0, hy⟩, ⟨Int.le_refl _, by show (0 : Int) <= _; omega⟩, ?_⟩, λ y ⟨y1, ⟨y2, y3⟩, y4⟩ => ⟨h2, λ hc => ?_, λ hc => ?_⟩⟩
   ·show Span.mk (-1) (-1) = Span.mk (min (0 - 1) D.lo) (min (0 - 1) D.hi)
    rw [show min ((0 : Int) - 1) D.lo = -1 by omega, show min ((0 : Int) - 1) D.hi = -1 by omega]
   ·have hc2 : (ET x.b y.t : Int) = 0 /\ y.t <= 2000 := by
     cases q : ((ET x.b y.t : Int) == 0) with
     | false => rw [q] at hc; cases hc
     | true => rw [q] at hc; exact ⟨by simpa using q, of_decide_eq_true hc⟩
    have ht := (CCX hE0 y2).1 hc2
    obtain ⟨k1, k2⟩ := d5 y.t ⟨y2, ht⟩
    have wt : IntKind.i64.wrap (y.t + 1) = y.t + 1 := EV (by omega) (by omega)
    have fin : ∀ (a b : Int), a = min y.t D.lo -> b = min y.t D.hi -> (AH x = 0 /\ HV (DP x.g x.b 0) = true) /\ (0 <= y.t + 1 /\ y.t + 1 <= (CX x.b 0).hi + 1) /\ Span.mk a b = Span.mk (min (y.t + 1 - 1) D.lo) (min (y.t + 1 - 1) D.hi) := λ a b e1 e2 => ⟨y1, ⟨by omega, by omega⟩, by rw [e1, e2, show y.t + 1 - 1 = y.t by omega]⟩
    have elo : y.o.lo = min (y.t - 1) D.lo := by rw [y4]
    have ehi : y.o.hi = min (y.t - 1) D.hi := by rw [y4]
    have hm : (2001 - (y.t + 1)).toNat < (2001 - y.t).toNat := by omega
    refine ⟨⟨hl, ho, As _ _ _, (ZU ho).1 hy, y2, hc2.2⟩, λ c => ⟨λ d => ⟨⟨y.t + 1, ⟨y.t, y.t⟩⟩, ⟨wt.symm, rfl, rfl⟩, fin _ _ ?_ ?_, hm⟩, λ d => ⟨⟨y.t + 1, ⟨y.t, y.o.hi⟩⟩, ⟨wt.symm, rfl, rfl⟩, fin _ _ ?_ ?_, hm⟩⟩, λ c => ⟨λ d => ⟨⟨y.t + 1, ⟨y.o.lo, y.t⟩⟩, ⟨wt.symm, rfl, rfl⟩, fin _ _ ?_ ?_, hm⟩, λ d => ⟨⟨y.t + 1, ⟨y.o.lo, y.o.hi⟩⟩, ⟨wt.symm, rfl, rfl⟩, fin _ _ ?_ ?_, hm⟩⟩⟩
    ·have := k1.2 (by simpa using c); omega
    ·have := k2.2 (by simpa using d); omega
    ·have := k1.2 (by simpa using c); omega
    ·have : ¬y.t <= D.hi := λ q => by have := k2.1 q; rw [this] at d; cases d
     omega
    ·have : ¬y.t <= D.lo := λ q => by have := k1.1 q; rw [this] at c; cases c
     omega
    ·have := k2.2 (by simpa using d); omega
    ·have : ¬y.t <= D.lo := λ q => by have := k1.1 q; rw [this] at c; cases c
     omega
    ·have : ¬y.t <= D.hi := λ q => by have := k2.1 q; rw [this] at d; cases d
     omega
   ·have hn : ¬y.t <= (CX x.b 0).hi := λ q => by
     obtain ⟨q1, q2⟩ := (CCX hE0 y2).2 q
     rw [show ((ET x.b y.t : Int) == 0) = true by simpa using q1, decide_eq_true q2] at hc; cases hc
    have elo : y.o.lo = min (y.t - 1) D.lo := by rw [y4]
    have ehi : y.o.hi = min (y.t - 1) D.hi := by rw [y4]
    exact ⟨by omega, by omega, d1⟩
theorem CNE : AG Try.prog BQP (C_rDry.spec dGB) := HR C_rDry CCT [] [] CLH (λ _ => by kernel_rfl) (λ _ => AB AGU (AB AHK (AB BRP (AB tC (AB BRY AD))))) (λ (x : GB) h => CTO x h.1 h.2) (λ _ => IN rfl rfl) _
theorem BUY {x : GBw} (h : I7 x = true) : (0 <= x.f /\ x.f <= 2000) /\ (x.f <= x.t /\ x.t <= 2000) /\ x.t - x.f < 200 := by
 unfold I7 BY at h
 simp only [Bool.and_eq_true, decide_eq_true_eq] at h
 omega
theorem CJN {a : GB} {t : Int} (hE : AH a = 0) (ht : 0 <= t /\ t <= 2000) : BD ⟨a.g, a.b, t⟩ = (bif wdN a t then 6 else 0) /\ (wdN a t = false -> AU ⟨a.g, a.b, t⟩ = wdB a t) := by
 have e : BD ⟨a.g, a.b, t⟩ = (bif wdN a t then 6 else 0) := by
  unfold BD
  rw [show AH (GA ⟨a.g, a.b, t⟩) = 0 from hE, show inT ⟨a.g, a.b, t⟩ = true by unfold inT BY; simpa using ht]; rfl
 refine ⟨e, λ h => ?_⟩
 rw [h] at e
 unfold AU; rw [e]; rfl
theorem CQP {a : GB} {t : Int} (hE : AH a = 0) (ht : 0 <= t /\ t <= 2000) (h : wdN a t = false) : Jg (wdB a t).lo /\ Jg (wdB a t).hi /\ HC (wdB a t).lo (wdB a t).hi :=
 cR (JS (UG hE)) ht λ q => by unfold wdN at h; rw [q] at h; cases h
theorem BJT {B : Bnd} (h : Jg B.lo /\ Jg B.hi /\ HC B.lo B.hi) : (IntKind.i64.wrap (IntKind.i64.wrap (B.hi.n * B.lo.d) - IntKind.i64.wrap (B.lo.n * B.hi.d)) = B.hi.n * B.lo.d - B.lo.n * B.hi.d /\ IntKind.i64.wrap (B.hi.d * B.lo.d) = B.hi.d * B.lo.d) /\ (0 < B.hi.d * B.lo.d /\ B.hi.d * B.lo.d <= 4000000) /\ 0 <= B.hi.n * B.lo.d - B.lo.n * B.hi.d /\ B.hi.n * B.lo.d - B.lo.n * B.hi.d <= 1600000000000 := by
 obtain ⟨⟨⟨a1, a2⟩, a3, a4⟩, ⟨⟨b1, b2⟩, b3, b4⟩, c⟩ := h
 unfold HC at c
 generalize B.lo.d = p at *
 generalize B.hi.d = q at *
 generalize B.lo.n = m at *
 generalize B.hi.n = n at *
 have e1 : 0 < q * p := Int.mul_pos b1 a1
 have e2 : q * p <= 2000 * 2000 := Int.le_trans (Int.mul_le_mul_of_nonneg_right b2 (Int.le_of_lt a1)) (Int.mul_le_mul_of_nonneg_left a2 (by omega))
 have e3 : n * p <= 400000000 * 2000 := Int.le_trans (Int.mul_le_mul_of_nonneg_right (show n <= 400000000 by omega) (Int.le_of_lt a1)) (Int.mul_le_mul_of_nonneg_left a2 (by omega))
 have e4 : 0 <= m * q := Int.mul_nonneg a3 (Int.le_of_lt b1)
 have e5 : 0 <= n * p := Int.mul_nonneg b3 (Int.le_of_lt a1)
 rw [EV (n := n * p) (by omega) (by omega), EV (n := m * q) (by omega) (by omega), EV (n := n * p - m * q) (by omega) (by omega), EV (n := q * p) (by omega) (by omega)]
 exact ⟨⟨rfl, rfl⟩, ⟨e1, by omega⟩, by omega, by omega⟩
theorem BYY {B : Bnd} (h : Jg B.lo /\ Jg B.hi /\ HC B.lo B.hi) : PI ⟨-1, 1⟩ (UO B) = true := by
 obtain ⟨_, ⟨h1, h2⟩, h3, h4⟩ := BJT h
 have hd := iE (n := B.hi.n * B.lo.d - B.lo.n * B.hi.d) h1
 have hv := WS (n := B.hi.n * B.lo.d - B.lo.n * B.hi.d) h1
 have hn := BQG (n := B.hi.n * B.lo.d - B.lo.n * B.hi.d) (d := B.hi.d * B.lo.d)
 have e : (UO B) = FD (B.hi.n * B.lo.d - B.lo.n * B.hi.d) (B.hi.d * B.lo.d) := rfl
 rw [<- e] at hd hv hn
 have hp : 0 <= (UO B).n := Classical.byContradiction λ hc => by
  have q1 := Int.mul_le_mul_of_nonneg_right (show (UO B).n <= -1 by omega) (Int.le_of_lt h1)
  have q2 := Int.mul_nonneg h3 (Int.le_of_lt hd.1)
  omega
 unfold PI
 show decide (wr (-1 * (UO B).d) < wr ((UO B).n * 1)) = true
 generalize UO B = w at *
 generalize B.hi.n * B.lo.d - B.lo.n * B.hi.d = N at *
 rw [Int.mul_one, show wr (-1 * w.d) = -1 * w.d from EV (by omega) (by omega), show wr w.n = w.n from EV (by omega) (by omega), decide_eq_true_eq]
 omega
theorem BWW {x : GBw} {y : WdA} (h : wdR x y) (hn : x.f + (y.n : Int) <= x.t) : y.n < wdC x /\ (0 <= x.f + (y.n : Int) /\ x.f + (y.n : Int) <= 2000) /\ (wdN x.a (x.f + y.n) = true -> Jh x = (0, 6)) /\ (wdN x.a (x.f + y.n) = false -> (PI y.r (UO (wdB x.a (x.f + y.n))) = true -> wdR x ⟨y.n + 1, x.f + y.n, UO (wdB x.a (x.f + y.n))⟩) /\ (PI y.r (UO (wdB x.a (x.f + y.n))) = false -> wdR x ⟨y.n + 1, y.o, y.r⟩)) := by
 obtain ⟨⟨h1, h2⟩, h3, h4⟩ := h
 have hi := BUY h2
 have hC : wdC x = (x.t - x.f + 1).toNat := rfl
 have hlt : y.n < wdC x := by omega
 obtain ⟨m, hm⟩ : ∃ m, wdC x - y.n = m + 1 := ⟨wdC x - y.n - 1, by omega⟩
 have hm2 : wdC x - (y.n + 1) = m := by omega
 have ek : x.f + ((y.n + 1 : Nat) : Int) = x.f + (y.n : Int) + 1 := by omega
 rw [hm] at h4; unfold wdS at h4
 refine ⟨hlt, ⟨by omega, by omega⟩, λ q => ?_, λ q => ⟨λ c => ⟨⟨h1, h2⟩, by show y.n + 1 <= _; omega, ?_⟩, λ c => ⟨⟨h1, h2⟩, by show y.n + 1 <= _; omega, ?_⟩⟩⟩
 ·rw [h4, q]; rfl
 ·show Jh x = wdS x.a (wdC x - (y.n + 1)) (x.f + ((y.n + 1 : Nat) : Int)) _ _
  rw [hm2, ek, h4, q, c]; rfl
 ·show Jh x = wdS x.a (wdC x - (y.n + 1)) (x.f + ((y.n + 1 : Nat) : Int)) _ _
  rw [hm2, ek, h4, q, c]; rfl
theorem CBD {x : GBw} {y : WdA} (h : wdR x y) (hn : ¬x.f + (y.n : Int) <= x.t) : Jh x = (y.o, 0) := by
 obtain ⟨⟨h1, h2⟩, h3, h4⟩ := h
 have hi := BUY h2
 have hC : wdC x = (x.t - x.f + 1).toNat := rfl
 rw [h4, show wdC x - y.n = 0 by omega]; rfl
theorem BOI {x : GBw} (hE : AH x.a = 0) (h : I7 x = true) : wdR x ⟨0, x.f, ⟨-1, 1⟩⟩ := by
 refine ⟨⟨hE, h⟩, Nat.zero_le _, ?_⟩
 unfold Jh
 rw [hE, h]
 show wdS x.a (wdC x) x.f x.f _ = wdS x.a (wdC x - 0) (x.f + ((0 : Nat) : Int)) x.f _
 rw [Nat.sub_zero, show x.f + ((0 : Nat) : Int) = x.f by omega]
theorem BUO {x : GBw} {n : Int} (hn : n = 199 ∨ n = 199) : (bif bif !BY x.f 0 2000 then true else !BY x.t x.f 2000 then true else decide (IntKind.i64.wrap (x.t - x.f) > n)) = !I7 x := by
 have hn : n = 199 := by omega
 subst hn
 unfold I7
 cases h1 : BY x.f 0 2000 with
 | false => rfl
 | true =>
  cases h2 : BY x.t x.f 2000 with
  | false => rfl
  | true =>
   unfold BY at h1 h2
   simp only [Bool.and_eq_true, decide_eq_true_eq] at h1 h2
   show decide (IntKind.i64.wrap (x.t - x.f) > 199) = !decide (x.t - x.f < 200)
   rw [EV (by omega) (by omega)]
   by_cases c : x.t - x.f < 200
   ·rw [decide_eq_true c, decide_eq_false (by omega)]; rfl
   ·rw [decide_eq_false c, decide_eq_true (by omega)]; rfl
theorem CUL (x : GBw) (h1 : x.a.g.length < 1073741824) (h2 : x.a.b.length < 1073741824) : CGL x := by
 rw [CNS]; delta Ow sP AVH rT AYS Nm rR ANM ARU BAF ABD Tc Xs Wo Wx Td HI Wj AAC ACY ACG U4 P6 ACS V9 Wf Wc Wp Q0 J7 P4; simp only [CC, eq_self, implies_true, forall_const, show GB.mk x.a.g x.a.b = x.a from rfl, BUO (x := x) (n := 199) (.inl rfl)]
 refine ⟨⟨h1, h2⟩, λ hE => ?_, λ hE => ⟨λ hc => ?_, λ hc => ?_⟩⟩
 ·have e : Jh x = (0, AH x.a) := by unfold Jh; rw [show (AH x.a == 0) = false by simpa using hE]; rfl
  rw [e]; exact ⟨rfl, rfl⟩
 ·have e : Jh x = (0, 4) := by unfold Jh; rw [show (AH x.a == 0) = true by simpa using hE, show I7 x = false by simpa using hc]; rfl
  rw [e]; exact ⟨rfl, rfl⟩
 ·have hE0 : AH x.a = 0 := by simpa using hE
  have hw : I7 x = true := by simpa using hc
  refine ⟨⟨⟨0, x.f, ⟨0, 0⟩⟩, ⟨rfl, by show x.f + ((0 : Nat) : Int) = x.f; omega, rfl, rfl⟩, .inl ⟨rfl, rfl, BOI hE0 hw, rfl⟩⟩, λ y hy => ?_⟩
  -- what the program's own loop has here
  obtain ⟨z, hz, zn, zo, zf, zr⟩ : ∃ z : WdA, wdR x z /\ z.n = y.n /\ z.o = y.o /\ (y.n = 0 -> z.r = ⟨-1, 1⟩) /\ (y.n ≠ 0 -> z.r = y.r) := by
   rcases hy with ⟨a1, a2, a3, a4⟩ | ⟨a1, a2⟩
   ·exact ⟨⟨0, y.o, ⟨-1, 1⟩⟩, a3, a1.symm, rfl, λ _ => rfl, λ q => absurd a1 q⟩
   ·exact ⟨y, a2, rfl, rfl, λ q => absurd q a1, λ _ => rfl⟩
  have hi := BUY hw
  refine ⟨λ hle => ?_, λ hgt => ?_⟩
  ·obtain ⟨n1, n2, n3, n4⟩ := BWW hz (by rw [zn]; exact hle)
   rw [zn] at n1 n2 n3 n4
   obtain ⟨f1, f2⟩ := CJN hE0 n2
   have ek : x.f + ((y.n + 1 : Nat) : Int) = IntKind.i64.wrap (x.f + (y.n : Int) + 1) := by rw [EV (by omega) (by omega)]; omega
   cases q : wdN x.a (x.f + y.n) with
   | true =>
    rw [q] at f1
    have f1 : BD ⟨x.a.g, x.a.b, x.f + y.n⟩ = 6 := f1
    rw [f1, n3 q]
    exact ⟨⟨h1, h2⟩, λ _ => ⟨rfl, rfl⟩, λ c => (by cases c)⟩
   | false =>
    rw [q] at f1
    have f1 : BD ⟨x.a.g, x.a.b, x.f + y.n⟩ = 0 := f1
    have hk := CQP hE0 n2 q
    obtain ⟨⟨w1, w2⟩, w3, w4⟩ := BJT hk
    obtain ⟨g1, g2⟩ := n4 q
    rw [f1, f2 q, w1, w2]
    refine ⟨⟨h1, h2⟩, λ c => (by cases c), λ _ => ⟨⟨w3.1, by omega, by omega, by omega⟩, λ c => ⟨⟨y.n + 1, x.f + y.n, UO (wdB x.a (x.f + y.n))⟩, ⟨rfl, ek, rfl, rfl⟩, .inr ⟨Nat.succ_ne_zero _, g1 ?_⟩, by show wdC x - (y.n + 1) < _; omega⟩, λ c => ?_⟩⟩
    ·by_cases e0 : y.n = 0
     ·rw [zf e0]; exact BYY hk
     ·rw [zr e0]
      rw [show (x.f + (y.n : Int) == x.f) = false by rw [beq_eq_false_iff_ne]; omega] at c
      exact c
    ·have e0 : y.n ≠ 0 := λ e0 => by
      rw [show (x.f + (y.n : Int) == x.f) = true by rw [beq_iff_eq]; omega] at c; cases c
     rw [show (x.f + (y.n : Int) == x.f) = false by rw [beq_eq_false_iff_ne]; omega] at c
     have := g2 (by rw [zr e0]; exact c)
     rw [zo, zr e0] at this
     exact ⟨⟨y.n + 1, y.o, y.r⟩, ⟨rfl, ek, rfl, rfl⟩, .inr ⟨Nat.succ_ne_zero _, this⟩, by show wdC x - (y.n + 1) < _; omega⟩
  ·have := CBD hz (by rw [zn]; exact hgt)
   rw [this, zo]; exact ⟨rfl, rfl⟩
theorem CKE : AG Try.prog BSM (C_Wid.spec dGBw) := HR C_Wid CEU [] [] CJZ (λ _ => by kernel_rfl) (λ _ => AB AGU (AB Uu (AB AKE (AB BHM (AB rB AD))))) (λ (x : GBw) h => CUL x h.1 h.2) (λ _ => IN rfl rfl) _
theorem CHP {w r : Rt} : YB w r > 0 ↔ PI r w = true := by
 unfold YB PI; rw [CII, decide_eq_true_eq]
theorem CIN {x : GBw} : (bif bif !BY x.f 0 2000 then true else !BY x.t x.f 2000 then true else decide (IntKind.i64.wrap (x.t - x.f) >= 200)) = !I7 x := by
 have e : decide (IntKind.i64.wrap (x.t - x.f) >= 200) = decide (IntKind.i64.wrap (x.t - x.f) > 199) := by rw [decide_eq_decide]; omega
 rw [e]; exact BUO (.inl rfl)
theorem CVU (x : GBw) (h1 : x.a.g.length < 1073741824) (h2 : x.a.b.length < 1073741824) (hE : AH x.a = 0) : CQG x := by
 rw [CSB]; delta AIE AHG AJJ AIN AII BGK BIH IE sI BHQ qZ Bh pW Ad ZV AQI wH ALO Pq ARS AUY Po vG Ls xD sM pU xJ uK Kj rA vX YA tL oG APB AOD Kg ASL XS AOR qK ANV AKQ AXO AVL AKI AKG AUA oU vQ vK AZT AKO AUR AQL AYV AYF AXS AMJ Pw ASK BAP; simp only [CC, eq_self, implies_true, forall_const, JG, JP, Iz, Iy, JT, if_true, show GB.mk x.a.g x.a.b = x.a from rfl, CIN]
 refine ⟨⟨by omega, by omega, hE⟩, λ hc => ?_, λ hc => ⟨⟨⟨0, x.f, ⟨-1, 1⟩⟩, ⟨rfl, by show x.f + ((0 : Nat) : Int) = x.f; omega, rfl, λ _ _ => ⟨rfl, rfl, rfl⟩, rfl, λ _ _ => rfl, λ _ => rfl, λ _ => rfl, λ _ => ⟨rfl, λ _ _ => ⟨rfl, rfl, rfl, rfl⟩⟩, rfl, rfl⟩, BOI hE (by simpa using hc)⟩, λ y hy => ⟨λ hle => ?_, λ hgt => ?_⟩⟩⟩
 ·have hc : I7 x = false := by simpa using hc
  have e : Jh x = (0, 4) := by unfold Jh; rw [hE, hc]; rfl
  rw [e]; exact ⟨rfl, rfl⟩
 ·have hw : I7 x = true := by simpa using hc
  have hi := BUY hw
  obtain ⟨n1, n2, n3, n4⟩ := BWW hy hle
  have ek : x.f + ((y.n + 1 : Nat) : Int) = IntKind.i64.wrap (x.f + (y.n : Int) + 1) := by rw [EV (by omega) (by omega)]; omega
  have eB : SI (lB (BkT.mk (UU x y.n) (x.f + y.n))) (x.f + y.n) = wdB x.a (x.f + y.n) := rfl
  have eL : wdN x.a (x.f + y.n) = decide ((lB (BkT.mk (UU x y.n) (x.f + y.n))).length = 0) := rfl
  have hk := CQP hE n2
  have eW : ∀ n : Int, (UU x (y.n + 1)).has n = (CF (UU x y.n) (kB (BkT.mk (UU x y.n) (x.f + y.n)))).has n := λ _ => rfl
  generalize lB (BkT.mk (UU x y.n) (x.f + y.n)) = L at *
  rw [eB]
  cases q : wdN x.a (x.f + y.n) with
  | true =>
   rw [q] at eL
   have h0 : L.length = 0 := of_decide_eq_true eL.symm
   exact ⟨⟨HP hE, n2⟩, λ _ => (by rw [n3 q]; exact ⟨rfl, rfl⟩), λ h => absurd h0 h⟩
  | false =>
   rw [q] at eL
   have h0 : ¬L.length = 0 := of_decide_eq_false eL.symm
   have hk := hk q
   obtain ⟨⟨w1, w2⟩, w3, w4⟩ := BJT hk
   obtain ⟨g1, g2⟩ := n4 q
   rw [w1, w2]
   exact ⟨⟨HP hE, n2⟩, λ h => absurd h0 h, λ _ => ⟨⟨w3.1, by omega, by omega, by omega⟩, λ c => ⟨⟨y.n + 1, x.f + y.n, UO (wdB x.a (x.f + y.n))⟩, ⟨rfl, ek, rfl, λ _ _ => ⟨rfl, rfl, rfl⟩, rfl, λ _ _ => rfl, λ _ => rfl, λ _ => rfl, λ _ => ⟨rfl, λ _ _ => ⟨rfl, rfl, rfl, rfl⟩⟩, rfl, rfl⟩, g1 (CHP.1 c), by show wdC x - (y.n + 1) < _; omega⟩, λ c => ⟨⟨y.n + 1, y.o, y.r⟩, ⟨rfl, ek, rfl, λ _ _ => ⟨rfl, rfl, rfl⟩, rfl, λ _ _ => rfl, λ _ => rfl, λ _ => rfl, λ _ => ⟨rfl, λ _ _ => ⟨rfl, rfl, rfl, rfl⟩⟩, rfl, rfl⟩, g2 (by
    cases e : PI y.r (UO (wdB x.a (x.f + y.n))) with
    | false => rfl
    | true => exact absurd (CHP.2 e) c), by show wdC x - (y.n + 1) < _; omega⟩⟩⟩
 ·have := CBD hy hgt
  rw [this]; exact ⟨rfl, rfl⟩
theorem CWH (x : GBw) (h1 : x.a.g.length < 1073741824) (h2 : x.a.b.length < 1073741824) (hE : AH x.a ≠ 0) : COM x := by
 rw [CRY]; simp only [CC, eq_self, implies_true, forall_const, show GB.mk x.a.g x.a.b = x.a from rfl]
 have e0 : (AH x.a == 0) = false := by simpa using hE
 rw [e0]
 refine ⟨⟨by omega, by omega, hE⟩, λ hc => (by cases hc), λ _ => ⟨λ _ => ?_, λ hc => ?_⟩⟩
 ·have e : Jh x = (0, AH x.a) := by unfold Jh; rw [e0]; rfl
  rw [e]; exact ⟨rfl, rfl⟩
 ·exact hE (by simpa using hc)
theorem CSQ : AG Try.prog AXY (C_Wid.spec dGBw) := Ctr.spec_ok (C := C_Wid) (λ (x : GBw) h => by
 have h : x.a.g.length < 1073741824 /\ x.a.b.length < 1073741824 := h
 by_cases hE : AH x.a = 0
 ·exact KZ (A := CPU x) (L := []) (keep := []) (ren := []) (fz := []) BBS (by kernel_rfl) (AB xA (AB Bv (AB Cs (AB ARI (AB Vb (AB ASC AD)))))) (CVU x h.1 h.2 hE)
 ·exact KZ (A := COP) (L := []) (keep := []) (ren := []) (fz := []) BBS (by kernel_rfl) (AB oN (AB Bv (AB Cs (AB ARI (AB Vb (AB ASC AD)))))) (CWH x h.1 h.2 hE)) _
end Go.Bal
