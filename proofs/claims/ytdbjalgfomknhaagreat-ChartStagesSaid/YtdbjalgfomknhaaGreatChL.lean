/- Package chart: Late, Proves. -/
import Derived.Test.YtdbjalgfomknhaaGreatChK
set_option linter.unusedVariables false
set_option linter.unusedSimpArgs false
namespace Go.Bal
open Go Go.Sym Go.Proofs
structure Prv where
 c : Cht
 m : Int
 l : List Pr
def dPrv : List AVal -> Heap -> Option (Prv × List (Nat × Nat) × List Nat)
 | [x, .d m, y], H => match vO x H, vH y H with
  | some (c, f), some (n, g, e) => some (⟨c, HM m, QR n λ i => dPr (g i)⟩, [], f ++ e)
  | _, _ => none
 | _, _ => none
def xPrv (x : Prv) : List AVal := [.d (Ef x.c), .int x.m, .d (bQ x.l)]
def Wj (x : Prv) (k : Nat) : Int := (nA x.c (gD x.l k)).mi
def pvB (x : Prv) (k : Nat) : Int := (nB x.c (gD x.l k)).mi
def mtF (x : Prv) : Nat -> Nat -> Bool
 | 0, _ => false
 | k + 1, i => mtF x k i || (decide (Wj x k <= i) && decide ((i : Int) < pvB x k))
def xT (f : Nat -> Bool) (a : Nat) : Nat -> Bool
 | 0 => false
 | j + 1 => xT f a j || f (a + j)
def pvK (x : Prv) : Nat -> Bool
 | 0 => true
 | k + 1 => pvK x k && Tk x.c (gD x.l k) && !xT (mtF x k) (Wj x k).toNat (pvB x k - Wj x k).toNat
def Kw (x : Prv) : Bool × Int := bif decide ((x.l.length : Int) > 40) then (false, 3) else bif !(x.l.all λ p => We x.c p) then (false, 2) else (pvK x x.l.length && decide ((x.l.length : Int) >= x.m), 0)
def G2 (x : Prv) : Bool × Int := bif AU x.c == 0 then Kw x else (false, AU x.c)
def C_prov : Ctr := { α := Prv, xs := xPrv, val := λ x => .tup [.bool (G2 x).1, .int (G2 x).2], keep := λ _ => [], pre := λ x => [x.c.ms.length < 4611686018427387904 /\ x.c.ns.length < 4611686018427387904 /\ x.l.length < 4611686018427387904] }
def pvS (x : Prv) (k : Nat) : List (Nat × AVal) := [(1, .int x.m), (2, .d (bQ x.l)), (3, .bptr 201 0), (8, .bptr 203 0), (10, .rptr 205 1 0 0), (33, .d (bQ x.l)), (34, .int x.l.length), (35, .int k)]
def pvH (x : Prv) (f : Nat -> Bool) : List (Nat × HCell) := [(201, .live (oI x.c)), (203, .live (dkB (AX x.c) 204)), (204, .live (dkM (AX x.c))), (205, .live (.row 1 40 λ i => .v (.bool (f i))))]
def pv10 (x : Prv) : Shape := { α := Nat, dflt := 0, T := λ k => ⟨pvS x k, pvH x (mtF x k)⟩, inv := λ k => k <= x.l.length /\ pvK x k = true, meas := λ k => x.l.length - k, first := [(201, 1000), (203, 2016), (204, 2017), (205, 9000)] }
def mtG (x : Prv) (k j : Nat) : Nat -> Bool := λ i => mtF x k i || (decide (Wj x k <= i) && decide ((i : Int) < Wj x k + j))
def pv15 (x : Prv) (m : Nat) : Shape := { α := IJ, dflt := default, T := λ s => ⟨[(12, .bptr 206 0), (13, .int (Wj x s.i + s.j))] ++ pvS x s.i, pvH x (mtG x s.i s.j) ++ [(206, .live (.box [.int (gD x.l s.i).a, .int (gD x.l s.i).b]))]⟩, inv := λ s => (s.i < x.l.length /\ x.l.length - s.i = m) /\ (pvK x s.i = true /\ Tk x.c (gD x.l s.i) = true) /\ (Wj x s.i + s.j <= pvB x s.i /\ xT (mtF x s.i) (Wj x s.i).toNat s.j = false), meas := λ s => 50 - s.j, first := [(206, 12032)] }
def AXQ (x : Prv) : Ann := { ann 71 [(YZ, C_open.spec oQ), (n_eP, C4Pp.spec d4Pp), (AIP, C_late.spec dDkP)] with loops := λ id => if id = 10 then some [pv10 x] else none, inner := λ gs id => if id = 15 then some [pv15 x (gs.getD 0 0)] else none }
def AWV (x : Prv) : Prop := CL Try.prog (AXQ x) jF (AH jF) (xPrv x) (AB []) (.tup [.bool (Kw x).1, .int (Kw x).2]) [] [] []
abbrev cT (x : Prv) : Prop := x.c.p.lo = x.c.p.lo
abbrev bX (x : Prv) : Prop := x.c.p.hi = x.c.p.hi
abbrev tU (x : Prv) : List Mk := QR x.c.ms.length λ (i : Nat) => gD x.c.ms i
abbrev tY (x : Prv) : Nat := (tU x).length
abbrev Q6 (x : Prv) (i : Nat) : Mk := gD (tU x) i
abbrev uP (x : Prv) : List Nt := QR x.c.ns.length λ (i : Nat) => gD x.c.ns i
abbrev tJ (x : Prv) : Nat := (uP x).length
abbrev vR (x : Prv) (i : Nat) : Nt := gD (uP x) i
abbrev Z8 (x : Prv) (i : Nat) : Span := (vR x i).t
abbrev Q5 (x : Prv) (i : Nat) : Span := (vR x i).s
abbrev wV (x : Prv) : Cht := Cht.mk x.c.p x.c.base x.c.scale x.c.off (tU x) (uP x)
abbrev oH (x : Prv) : List Pr := QR x.l.length λ (i : Nat) => gD x.l i
abbrev mT (x : Prv) : Nat := (oH x).length
abbrev F0 (x : Prv) (i : Nat) : Pr := gD (oH x) i
abbrev D2 (x : Prv) : Dk := AX (wV x)
abbrev Mc (x : Prv) : Cht := (D2 x).c
abbrev lO (x : Prv) : Span := (Mc x).p
abbrev mZ (x : Prv) : Int := (lO x).lo
abbrev A7 (x : Prv) : Prop := mZ x = mZ x
abbrev mW (x : Prv) : Int := (lO x).hi
abbrev wB (x : Prv) : Prop := mW x = mW x
abbrev bM (x : Prv) : Int := (Mc x).base
abbrev xR (x : Prv) : Prop := bM x = bM x
abbrev cM (x : Prv) : Int := (Mc x).scale
abbrev yL (x : Prv) : Prop := cM x = cM x
abbrev aM (x : Prv) : Int := (Mc x).off
abbrev zH (x : Prv) : Prop := aM x = aM x
abbrev C9 (x : Prv) : List Mk := (Mc x).ms
abbrev Sb (x : Prv) : Nat := (C9 x).length
abbrev nN (x : Prv) (i : Nat) : Mk := gD (C9 x) i
abbrev mV (x : Prv) : List Mk := QR (Sb x) λ (i : Nat) => nN x i
abbrev nO (x : Prv) : Nat := (mV x).length
abbrev B7 (x : Prv) (i : Nat) : Mk := gD (mV x) i
abbrev wA (x : Prv) (i : Nat) : Int := (B7 x i).pl
abbrev oE (x : Prv) (i : Nat) : Int := (nN x i).pl
abbrev A8 (x : Prv) (i : Nat) : Int := (B7 x i).ht
abbrev lU (x : Prv) (i : Nat) : Int := (nN x i).ht
abbrev cQ (x : Prv) : List Nt := (Mc x).ns
abbrev Si (x : Prv) : Nat := (cQ x).length
abbrev cB (x : Prv) (i : Nat) : Nt := gD (cQ x) i
abbrev Sk (x : Prv) : List Nt := QR (Si x) λ (i : Nat) => cB x i
abbrev bA (x : Prv) : Nat := (Sk x).length
abbrev lR (x : Prv) (i : Nat) : Nt := gD (Sk x) i
abbrev zK (x : Prv) (i : Nat) : Int := (lR x i).mi
abbrev mX (x : Prv) (i : Nat) : Int := (cB x i).mi
abbrev zR (x : Prv) (i : Nat) : Span := (lR x i).t
abbrev xH (x : Prv) (i : Nat) : Int := (zR x i).lo
abbrev zN (x : Prv) (i : Nat) : Span := (cB x i).t
abbrev nT (x : Prv) (i : Nat) : Int := (zN x i).lo
abbrev wC (x : Prv) (i : Nat) : Int := (zR x i).hi
abbrev mR (x : Prv) (i : Nat) : Int := (zN x i).hi
abbrev yR (x : Prv) (i : Nat) : Span := (lR x i).s
abbrev wN (x : Prv) (i : Nat) : Int := (yR x i).lo
abbrev E8 (x : Prv) (i : Nat) : Span := (cB x i).s
abbrev nR (x : Prv) (i : Nat) : Int := (E8 x i).lo
abbrev yH (x : Prv) (i : Nat) : Int := (yR x i).hi
abbrev lP (x : Prv) (i : Nat) : Int := (E8 x i).hi
abbrev Cz : Prop := ∀ (i : Nat), i < 40 -> false = false
abbrev xI (x : Prv) (n : Int) : Bool := hasN (Sk x) n
abbrev lW (x : Prv) (n : Int) : Bool := hasN (cQ x) n
abbrev nE (x : Prv) (n : Int) : Int := (D2 x).st n
abbrev wE (x : Prv) : Prop := ∀ (n : Int), nE x n = nE x n
abbrev nZ (x : Prv) (n : Int) : Nt := ntOf (Sk x) n
abbrev zD (x : Prv) (n : Int) : Int := (nZ x n).mi
abbrev nV (x : Prv) (n : Int) : Nt := ntOf (cQ x) n
abbrev mD (x : Prv) (n : Int) : Int := (nV x n).mi
abbrev zP (x : Prv) (n : Int) : Span := (nZ x n).t
abbrev wK (x : Prv) (n : Int) : Int := (zP x n).lo
abbrev zE (x : Prv) (n : Int) : Span := (nV x n).t
abbrev nI (x : Prv) (n : Int) : Int := (zE x n).lo
abbrev wG (x : Prv) (n : Int) : Int := (zP x n).hi
abbrev mQ (x : Prv) (n : Int) : Int := (zE x n).hi
abbrev yY (x : Prv) (n : Int) : Span := (nZ x n).s
abbrev zW (x : Prv) (n : Int) : Int := (yY x n).lo
abbrev F7 (x : Prv) (n : Int) : Span := (nV x n).s
abbrev mE (x : Prv) (n : Int) : Int := (F7 x n).lo
abbrev D4 (x : Prv) (n : Int) : Int := (yY x n).hi
abbrev lY (x : Prv) (n : Int) : Int := (F7 x n).hi
abbrev Cw (x : Prv) : Prop := x.l.length = x.l.length
abbrev B9 (x : Prv) (i : Nat) : Prop := (gD x.l i).a = (gD x.l i).a
abbrev yZ (x : Prv) (i : Nat) : Prop := (gD x.l i).b = (gD x.l i).b
abbrev Da (x : Prv) : Prop := ∀ (i : Nat), i < x.l.length -> B9 x i /\ yZ x i
abbrev cF : Prop := 0 = 0
abbrev aV (x : Prv) : Prop := (↑x.l.length : Int) = (↑x.l.length : Int)
abbrev bD (x : Prv) : Prop := x.c.ms.length = x.c.ms.length
abbrev bI (x : Prv) : Prop := ∀ (i : Nat), i < x.c.ms.length -> (gD x.c.ms i).pl = (gD x.c.ms i).pl /\ (gD x.c.ms i).ht = (gD x.c.ms i).ht
abbrev aK (x : Prv) : Prop := x.c.ns.length = x.c.ns.length
abbrev aY (x : Prv) : Prop := ∀ (i : Nat), i < x.c.ns.length -> (gD x.c.ns i).mi = (gD x.c.ns i).mi /\ (gD x.c.ns i).t.lo = (gD x.c.ns i).t.lo /\ (gD x.c.ns i).t.hi = (gD x.c.ns i).t.hi /\ (gD x.c.ns i).s.lo = (gD
 x.c.ns i).s.lo /\ (gD x.c.ns i).s.hi = (gD x.c.ns i).s.hi
abbrev mJ (i : Nat) (x : Prv) : Prop := i < (AX x.c).c.ms.length
abbrev Sf (x : Prv) (i : Nat) : Int := (gD (AX x.c).c.ms i).pl
abbrev Ry (x : Prv) (i : Nat) : Int := (gD (AX x.c).c.ms i).ht
abbrev mY (i : Nat) (x : Prv) : Prop := i < (AX x.c).c.ns.length
abbrev Sh (x : Prv) (i : Nat) : Int := (gD (AX x.c).c.ns i).mi
abbrev xK (x : Prv) (i : Nat) : Span := (gD (AX x.c).c.ns i).t
abbrev Sj (x : Prv) (i : Nat) : Int := (xK x i).lo
abbrev Rz (x : Prv) (i : Nat) : Int := (xK x i).hi
abbrev zA (x : Prv) (i : Nat) : Span := (gD (AX x.c).c.ns i).s
abbrev Rw (x : Prv) (i : Nat) : Int := (zA x i).lo
abbrev Sd (x : Prv) (i : Nat) : Int := (zA x i).hi
abbrev cE : Prop := 40 = 40
abbrev fO (a : Nat) (x : Prv) : Prop := a <= x.l.length /\ pvK x a = true
abbrev sV (a : Nat) (x : Prv) : Prop := (↑a : Int) < (↑x.l.length : Int)
abbrev Lo (x : Prv) : Prop := (AX x.c).c.p.lo = (AX x.c).c.p.lo
abbrev Lr (x : Prv) : Prop := (AX x.c).c.p.hi = (AX x.c).c.p.hi
abbrev Ln (x : Prv) : Prop := (AX x.c).c.base = (AX x.c).c.base
abbrev Nh (x : Prv) : Prop := (AX x.c).c.scale = (AX x.c).c.scale
abbrev Mr (x : Prv) : Prop := (AX x.c).c.off = (AX x.c).c.off
abbrev dG (x : Prv) : List Mk := QR (AX x.c).c.ms.length λ (i : Nat) => gD (AX x.c).c.ms i
abbrev Me (x : Prv) : Nat := (dG x).length
abbrev sM (x : Prv) (i : Nat) : Mk := gD (dG x) i
abbrev sC (x : Prv) (i : Nat) : Int := (sM x i).pl
abbrev sI (x : Prv) (i : Nat) : Int := (sM x i).ht
abbrev Mu (x : Prv) : List Nt := QR (AX x.c).c.ns.length λ (i : Nat) => gD (AX x.c).c.ns i
abbrev Gf (x : Prv) : Nat := (Mu x).length
abbrev rA (i : Nat) (x : Prv) : Prop := i < Gf x
abbrev gV (x : Prv) (i : Nat) : Nt := gD (Mu x) i
abbrev Tc (x : Prv) (i : Nat) : Int := (gV x i).mi
abbrev qX (x : Prv) (i : Nat) : Span := (gV x i).t
abbrev rG (x : Prv) (i : Nat) : Int := (qX x i).lo
abbrev qI (x : Prv) (i : Nat) : Int := (qX x i).hi
abbrev qV (x : Prv) (i : Nat) : Span := (gV x i).s
abbrev pW (x : Prv) (i : Nat) : Int := (qV x i).lo
abbrev sN (x : Prv) (i : Nat) : Int := (qV x i).hi
abbrev qY (x : Prv) (n : Int) : Bool := hasN (Mu x) n
abbrev Lz (x : Prv) : Prop := ∀ (n : Int), (AX x.c).st n = (AX x.c).st n
abbrev fC (x : Prv) (n : Int) : Nt := ntOf (Mu x) n
abbrev pZ (x : Prv) (n : Int) : Int := (fC x n).mi
abbrev rB (x : Prv) (n : Int) : Span := (fC x n).t
abbrev qE (x : Prv) (n : Int) : Int := (rB x n).lo
abbrev sJ (x : Prv) (n : Int) : Int := (rB x n).hi
abbrev sA (x : Prv) (n : Int) : Span := (fC x n).s
abbrev rO (x : Prv) (n : Int) : Int := (sA x n).lo
abbrev rC (x : Prv) (n : Int) : Int := (sA x n).hi
abbrev sF (x : Prv) (a : Nat) : Prop := 0 <= (gD x.l a).a
abbrev sH (x : Prv) : Prop := (Kw x).snd = 0
abbrev qH (x : Prv) : Prop := (Kw x).fst = false /\ sH x
abbrev YG (x : Prv) (a : IJ) : Int := Wj x a.i + (↑a.j : Int)
abbrev eW (x : Prv) : Prop := (AX x.c).c.ms.length = (AX x.c).c.ms.length
abbrev fN (x : Prv) : Prop := ∀ (i : Nat), mJ i x -> Sf x i = Sf x i /\ Ry x i = Ry x i
abbrev dU (x : Prv) : Prop := (AX x.c).c.ns.length = (AX x.c).c.ns.length
abbrev cW (x : Prv) : Prop := ∀ (i : Nat), mY i x -> Sh x i = Sh x i /\ Sj x i = Sj x i /\ Rz x i = Rz x i /\ Rw x i = Rw x i /\ Sd x i = Sd
 x i
abbrev fL (x : Prv) : Prop := ∀ (n : Int), hasN (AX x.c).c.ns n = hasN (AX x.c).c.ns n
abbrev gC (x : Prv) : Prop := ∀ (n : Int), (ntOf (AX x.c).c.ns n).mi = (ntOf (AX x.c).c.ns n).mi /\ (ntOf (AX x.c).c.ns n).t.lo = (ntOf (AX x.c).c.ns n).t.lo /\ (ntOf (AX x.c).c.ns n).t.hi = (ntOf (AX
 x.c).c.ns n).t.hi /\ (ntOf (AX x.c).c.ns n).s.lo = (ntOf (AX x.c).c.ns n).s.lo /\ (ntOf (AX x.c).c.ns n).s.hi = (ntOf (AX x.c).c.ns n).s.hi
abbrev dR (x : Prv) (a : Nat) : Nat := x.l.length - a
abbrev gB (a : IJ) (x : Prv) (a1 : Nat) : Prop := (a.i < x.l.length /\ x.l.length - a.i = dR x a1) /\ (pvK x a.i = true /\ Tk x.c (gD x.l a.i) = true) /\ YG x a <= pvB x a.i /\ xT (mtF x a.i) (Wj
 x a.i).toNat a.j = false
abbrev dX (x : Prv) (a : IJ) : Nat := (YG x a).toNat
abbrev rH (x : Prv) (a : IJ) : Prop := (0 <= YG x a /\ YG x a < (↑40 : Int)) /\ (dX x a).succ.le 40
abbrev pX (a : IJ) : Nat := 50 - a.j
theorem BGR (x : Prv) : (AWV x) = ((cT x /\ bX x /\ x.c.base = x.c.base /\ x.c.scale = x.c.scale /\ x.c.off = x.c.off /\ tY x = x.c.ms.length /\ (∀ (i : Nat), i < tY x -> (Q6 x i).pl = (gD
 x.c.ms i).pl /\ (Q6 x i).ht = (gD x.c.ms i).ht) /\ tJ x = x.c.ns.length /\ (∀ (i : Nat), i < tJ x -> (vR x i).mi = (gD x.c.ns i).mi /\ (Z8 x i).lo = (gD x.c.ns i).t.lo /\ (Z8 x i).hi = (gD
 x.c.ns i).t.hi /\ (Q5 x i).lo = (gD x.c.ns i).s.lo /\ (Q5 x i).hi = (gD x.c.ns i).s.hi) /\ (tY x < 4611686018427387904 /\ tJ x < 4611686018427387904) /\ AU (wV x) = 0) /\ bif decide
 ((↑x.l.length : Int) > 40) then (Kw x).fst = false /\ (Kw x).snd = 3 else (mT x = x.l.length /\ (∀ (i : Nat), i < mT x -> (F0 x i).a = (gD x.l i).a /\ (F0 x i).b = (gD x.l i).b) /\ A7
 x /\ wB x /\ xR x /\ yL x /\ zH x /\ nO x = Sb x /\ (∀ (i : Nat), i < nO x -> wA x i = oE x i /\ A8 x i = lU x i) /\ bA x = Si x /\ (∀ (i :
 Nat), i < bA x -> zK x i = mX x i /\ xH x i = nT x i /\ wC x i = mR x i /\ wN x i = nR x i /\ yH x i = lP x i) /\ Cz /\ jR = jR /\ (∀ (n :
 Int), xI x n = lW x n) /\ wE x /\ (∀ (n : Int), zD x n = mD x n /\ wK x n = nI x n /\ wG x n = mQ x n /\ zW x n = mE x n /\ D4 x n = lY
 x n) /\ A7 x /\ wB x /\ xR x /\ yL x /\ zH x /\ Sb x = nO x /\ (∀ (i : Nat), i < Sb x -> oE x i = wA x i /\ lU x i = A8 x i) /\ Si x =
 bA x /\ (∀ (i : Nat), i < Si x -> mX x i = zK x i /\ nT x i = xH x i /\ mR x i = wC x i /\ nR x i = wN x i /\ lP x i = yH x i) /\ Cz /\
 jR = jR /\ (∀ (n : Int), lW x n = xI x n) /\ wE x /\ (∀ (n : Int), mD x n = zD x n /\ nI x n = wK x n /\ mQ x n = wG x n /\ mE x n = zW x n /\
 lY x n = D4 x n) /\ mT x < 4611686018427387904 /\ bA x < 1073741824) /\ bif !(oH x).all λ (x_1 : Pr) => We (Cht.mk (lO x) (bM x) (cM x) (aM x) (mV
 x) (Sk x)) x_1 then (Kw x).fst = false /\ (Kw x).snd = 2 else (Value.agg #[Value.bool false, Value.bool false, Value.bool false, Value.bool false, Value.bool false, Value.bool false, Value.bool false,
 Value.bool false, Value.bool false, Value.bool false, Value.bool false, Value.bool false, Value.bool false, Value.bool false, Value.bool false, Value.bool false, Value.bool false, Value.bool false, Value.bool false,
 Value.bool false, Value.bool false, Value.bool false, Value.bool false, Value.bool false, Value.bool false, Value.bool false, Value.bool false, Value.bool false, Value.bool false, Value.bool false, Value.bool false,
 Value.bool false, Value.bool false, Value.bool false, Value.bool false, Value.bool false, Value.bool false, Value.bool false, Value.bool false, Value.bool false]).cells.toList = (List.replicate 40 (Value.bool
 false).cells.toList).flatten /\ (∃ (a : Nat), (x.m = x.m /\ Cw x /\ Da x /\ cF /\ Cw x /\ Da x /\ aV x /\ (↑a : Int) = 0 /\ cT x /\ bX x /\ x.c.base = x.c.base /\ x.c.scale =
 x.c.scale /\ x.c.off = x.c.off /\ bD x /\ bI x /\ aK x /\ aY x /\ (AX x.c).c.p.lo = mZ x /\ (AX x.c).c.p.hi = mW x /\ (AX x.c).c.base = bM x /\ (AX x.c).c.scale = cM
 x /\ (AX x.c).c.off = aM x /\ (AX x.c).c.ms.length = Sb x /\ (∀ (i : Nat), mJ i x -> Sf x i = oE x i /\ Ry x i = lU x i) /\ (AX x.c).c.ns.length = Si x /\ (∀ (i :
 Nat), mY i x -> Sh x i = mX x i /\ Sj x i = nT x i /\ Rz x i = mR x i /\ Rw x i = nR x i /\ Sd x i = lP x i) /\ Cz /\ jR = jR /\ (∀ (n : Int),
 hasN (AX x.c).c.ns n = lW x n) /\ (∀ (n : Int), (AX x.c).st n = nE x n) /\ (∀ (n : Int), (ntOf (AX x.c).c.ns n).mi = mD x n /\ (ntOf (AX x.c).c.ns n).t.lo = nI x n /\ (ntOf (AX x.c).c.ns
 n).t.hi = mQ x n /\ (ntOf (AX x.c).c.ns n).s.lo = mE x n /\ (ntOf (AX x.c).c.ns n).s.hi = lY x n) /\ cE /\ ∀ (i : Nat), i < 40 -> mtF x a i = false) /\ fO a x) /\ ∀ (a : Nat), fO
 a x -> bif decide (sV a x) then (0 <= (↑a : Int) /\ sV a x) /\ (B9 x a /\ yZ x a /\ Lo x /\ Lr x /\ Ln x /\ Nh x /\ Mr x /\ Me x = (AX x.c).c.ms.length
 /\ (∀ (i : Nat), i < Me x -> sC x i = Sf x i /\ sI x i = Ry x i) /\ Gf x = (AX x.c).c.ns.length /\ (∀ (i : Nat), rA i x -> Tc x i = Sh x i /\ rG x i
 = Sj x i /\ qI x i = Rz x i /\ pW x i = Rw x i /\ sN x i = Sd x i) /\ Cz /\ jR = jR /\ (∀ (n : Int), qY x n = hasN (AX x.c).c.ns n) /\ Lz x /\ (∀ (n
 : Int), pZ x n = (ntOf (AX x.c).c.ns n).mi /\ qE x n = (ntOf (AX x.c).c.ns n).t.lo /\ sJ x n = (ntOf (AX x.c).c.ns n).t.hi /\ rO x n = (ntOf (AX x.c).c.ns n).s.lo /\ rC x n =
 (ntOf (AX x.c).c.ns n).s.hi) /\ Lo x /\ Lr x /\ Ln x /\ Nh x /\ Mr x /\ (AX x.c).c.ms.length = Me x /\ (∀ (i : Nat), mJ i x -> Sf x i = sC x i /\ Ry
 x i = sI x i) /\ (AX x.c).c.ns.length = Gf x /\ (∀ (i : Nat), mY i x -> Sh x i = Tc x i /\ Sj x i = rG x i /\ Rz x i = qI x i /\ Rw x i = pW
 x i /\ Sd x i = sN x i) /\ Cz /\ jR = jR /\ (∀ (n : Int), hasN (AX x.c).c.ns n = qY x n) /\ Lz x /\ (∀ (n : Int), (ntOf (AX x.c).c.ns n).mi = pZ x n /\ (ntOf (AX x.c).c.ns
 n).t.lo = qE x n /\ (ntOf (AX x.c).c.ns n).t.hi = sJ x n /\ (ntOf (AX x.c).c.ns n).s.lo = rO x n /\ (ntOf (AX x.c).c.ns n).s.hi = rC x n) /\ ((sF x a /\ (gD x.l a).a <
 (↑(Gf x) : Int)) /\ 0 <= (gD x.l a).b /\ (gD x.l a).b < (↑(Gf x) : Int)) /\ (Me x <= 40 /\ Gf x <= 20) /\ ∀ (i : Nat), rA i x -> 0 <= Tc x i /\ Tc x i < (↑(Me x) :
 Int)) /\ bif !Tk (Cht.mk (AX x.c).c.p (AX x.c).c.base (AX x.c).c.scale (AX x.c).c.off (dG x) (Mu x)) (gD x.l a) then qH x else (sF x a /\ (gD x.l a).a < (↑x.c.ns.length : Int)) /\
 (∃ (a_2 : IJ), (YG x a_2 = (gD x.c.ns (gD x.l a).a.toNat).mi /\ x.m = x.m /\ Cw x /\ Da x /\ cF /\ Cw x /\ Da x /\ aV x /\ (↑a_2.i : Int) = (↑a : Int) /\ cT x /\ bX x /\
 x.c.base = x.c.base /\ x.c.scale = x.c.scale /\ x.c.off = x.c.off /\ bD x /\ bI x /\ aK x /\ aY x /\ Lo x /\ Lr x /\ Ln x /\ Nh x /\ Mr x /\ eW x /\
 fN x /\ dU x /\ cW x /\ Cz /\ jR = jR /\ fL x /\ Lz x /\ gC x /\ cE /\ (∀ (i : Nat), i < 40 -> mtG x a_2.i a_2.j i = mtF x a i) /\ (gD x.l a_2.i).a = (gD x.l a).a /\
 (gD x.l a_2.i).b = (gD x.l a).b) /\ gB a_2 x a) /\ ∀ (a_2 : IJ), gB a_2 x a -> (0 <= (gD x.l a_2.i).b /\ (gD x.l a_2.i).b < (↑x.c.ns.length : Int)) /\ bif decide (YG x a_2 < (gD x.c.ns (gD x.l
 a_2.i).b.toNat).mi) then rH x a_2 /\ bif mtG x a_2.i a_2.j (dX x a_2) then qH x else rH x a_2 /\ ∃ (a_4 : IJ), (YG x a_4 = IntKind.i64.wrap (YG x a_2 + 1) /\ x.m = x.m /\
 Cw x /\ Da x /\ cF /\ Cw x /\ Da x /\ aV x /\ (↑a_4.i : Int) = (↑a_2.i : Int) /\ cT x /\ bX x /\ x.c.base = x.c.base /\ x.c.scale = x.c.scale /\ x.c.off = x.c.off /\ bD x
 /\ bI x /\ aK x /\ aY x /\ Lo x /\ Lr x /\ Ln x /\ Nh x /\ Mr x /\ eW x /\ fN x /\ dU x /\ cW x /\ Cz /\ jR = jR /\ fL x /\
 Lz x /\ gC x /\ cE /\ (∀ (i : Nat), i < 40 -> mtG x a_4.i a_4.j i = bif decide (i = dX x a_2) then true else mtG x a_2.i a_2.j i) /\ (gD x.l a_4.i).a = (gD x.l a_2.i).a /\ (gD x.l a_4.i).b = (gD
 x.l a_2.i).b) /\ gB a_4 x a /\ pX a_4 < pX a_2 else ∃ (a_4 : Nat), (x.m = x.m /\ Cw x /\ Da x /\ cF /\ Cw x /\ Da x /\ aV x /\ (↑a_4 : Int) = IntKind.i64.wrap
 ((↑a_2.i : Int) + 1) /\ cT x /\ bX x /\ x.c.base = x.c.base /\ x.c.scale = x.c.scale /\ x.c.off = x.c.off /\ bD x /\ bI x /\ aK x /\ aY x /\ Lo x /\ Lr x /\ Ln x /\
 Nh x /\ Mr x /\ eW x /\ fN x /\ dU x /\ cW x /\ Cz /\ jR = jR /\ fL x /\ Lz x /\ gC x /\ cE /\ ∀ (i : Nat), i < 40 -> mtF x a_4 i = mtG x a_2.i
 a_2.j i) /\ fO a_4 x /\ dR x a_4 < dR x a else (Kw x).fst = decide ((↑x.l.length : Int) >= x.m) /\ sH x) := by kernel_rfl
def API : Ann := ann 71 [(YZ, C_openX.spec oQ)]
def ASA (x : Prv) : Prop := CL Try.prog API jF (AH jF) (xPrv x) (AB []) (.tup [.bool false, .int (AU x.c)]) [] [] []
abbrev Wx:=Prv.c
attribute [go_sem] Wx
theorem AXF (x : Prv) : (ASA x) = (And (NE (Wx x) (BM (Wx x)) (λ i=>AZ i (Wx x)) (BK (Wx x)) (λ i=>BJ i (Wx x)) (Gg (Wx x) (Wx x)) (XU (VY (Wx x)))) (DV (UN (VY (Wx x))) (EZ Aq) (SD (Wx x) (VY (Wx x))) (DV (OT (WQ (Prv.l x)) 40) (EZ Aq) (SD (Wx x) 3) NG))) := by kernel_rfl
theorem BGQ {c : Cht} {p : Pr} (hn : c.ns.length < 1073741824) (h : We c p = true) : ((0 <= p.a /\ p.a < c.ns.length) /\ 0 <= p.b /\ p.b < c.ns.length) /\ (nA c p).mi < (nB c p).mi := by
 unfold We at h
 cases hq : G8 c.ns.length p with
 | false => rw [hq] at h; cases h
 | true =>
  rw [hq] at h
  have h : (bif (!(p.a == p.b && p.b == p.a)) then decide ((nA c p).mi < (nB c p).mi) else false) = true := h
  unfold G8 wr TP at hq
  rw [Dh (by omega) (by omega)] at hq
  simp only [Bool.and_eq_true, decide_eq_true_eq] at hq
  refine ⟨⟨by omega, by omega⟩, ?_⟩
  cases hb : (!(p.a == p.b && p.b == p.a)) with
  | false => rw [hb] at h; cases h
  | true => rw [hb] at h; exact of_decide_eq_true h
theorem AJZ {x : Prv} : ∀ {m k : Nat}, k <= m -> pvK x m = true -> pvK x k = true
 | 0, k, h, hm => by
  obtain rfl : k = 0 := by omega
  rfl
 | m + 1, k, h, hm => by
  by_cases hk : k = m + 1
  ·subst hk; exact hm
  ·have h2 : (pvK x m && Tk x.c (gD x.l m) && !xT (mtF x m) (Wj x m).toNat (pvB x m - Wj x m).toNat) = true := hm
   rw [Bool.and_eq_true, Bool.and_eq_true] at h2
   exact AJZ (by omega) h2.1.1
theorem BAE {f : Nat -> Bool} {a : Nat} : ∀ {m k : Nat}, k <= m -> xT f a k = true -> xT f a m = true
 | 0, k, h, hm => by
  obtain rfl : k = 0 := by omega
  exact hm
 | m + 1, k, h, hm => by
  by_cases hk : k = m + 1
  ·subst hk; exact hm
  ·show (xT f a m || f (a + m)) = true
   rw [BAE (show k <= m by omega) hm]; rfl
theorem ASG {x : Prv} (h1 : ¬(x.l.length : Int) > 40) (h2 : (x.l.all λ p => We x.c p) = true) {k : Nat} (hk : k < x.l.length) (h3 : pvK x (k + 1) = false) : (Kw x).1 = false /\ (Kw x).2 = 0 := by
 have h : pvK x x.l.length = false := by
  cases hq : pvK x x.l.length with
  | false => rfl
  | true => rw [AJZ (show k + 1 <= x.l.length from hk) hq] at h3; cases h3
 unfold Kw; rw [decide_eq_false h1, h2, h]; exact ⟨rfl, rfl⟩
theorem BMI (x : Prv) (h1 : x.c.ms.length < 4611686018427387904 /\ x.c.ns.length < 4611686018427387904 /\ x.l.length < 4611686018427387904) (h0 : AU x.c = 0) : AWV x := by
 have hl := RA h0
 have hs := oD h0
 have hM := BIG hs.1
 rw [BGR]; delta cT bX tU tY Q6 uP tJ vR Z8 Q5 wV oH mT F0 D2 Mc lO mZ A7 mW wB bM xR cM yL aM zH C9 Sb nN mV nO B7 wA oE A8 lU cQ Si cB Sk bA lR zK mX zR xH zN nT wC mR yR wN E8 nR yH lP Cz xI lW nE wE nZ zD nV mD zP wK zE nI wG mQ yY zW F7 mE D4 lY Cw B9 yZ Da cF aV bD bI aK aY mJ Sf Ry mY Sh xK Sj Rz zA Rw Sd cE fO sV Lo Lr Ln Nh Mr dG Me sM sC sI Mu Gf rA gV Tc qX rG qI qV pW sN qY Lz fC pZ rB qE sJ sA rO rC sF sH qH YG eW fN dU cW fL gC dR gB dX rH pX; simp only [CC, eq_self, implies_true, forall_const, DN, B5, aF, AKR, U1, BIC]
 refine ⟨⟨⟨h1.1, h1.2.1⟩, h0⟩, λ hc => ?_, λ hc => ⟨⟨h1.2.2, by omega⟩, λ ha => ?_, λ ha => ⟨rfl, ⟨0, ⟨rfl, λ _ _ => rfl⟩, Nat.zero_le _, rfl⟩, ?_⟩⟩⟩
 ·unfold Kw; rw [decide_eq_true hc]; exact ⟨rfl, rfl⟩
 ·unfold Kw; rw [decide_eq_false hc, ha]; exact ⟨rfl, rfl⟩
 ·rintro k ⟨hk, hp⟩
  have hP : ∀ k, k < x.l.length -> _ := λ k hk => BGQ (by omega) (List.all_eq_true.1 ha _ (WR hk))
  have mA : ∀ k, k < x.l.length -> 0 <= Wj x k /\ Wj x k < x.c.ms.length := λ k hk => hM _ (by have := (hP k hk).1; omega)
  have mB : ∀ k, k < x.l.length -> 0 <= pvB x k /\ pvB x k < x.c.ms.length := λ k hk => hM _ (by have := (hP k hk).1; omega)
  have mL : ∀ k, k < x.l.length -> Wj x k < pvB x k := λ k hk => (hP k hk).2
  have eB : ∀ k, (gD x.c.ns (gD x.l k).b.toNat).mi = pvB x k := λ _ => rfl
  have eA : ∀ k, (gD x.c.ns (gD x.l k).a.toNat).mi = Wj x k := λ _ => rfl
  refine ⟨λ hlt => ⟨⟨by omega, by omega⟩, ⟨(hP k (by omega)).1, ⟨hl.2.1.2, hl.2.2⟩, hM⟩, λ hL => ?_, λ hL => ⟨(hP k (by omega)).1.1, ⟨⟨k, 0⟩, ⟨by rw [eA]; show Wj x k + ((0 : Nat) : Int) = _; omega, rfl, λ i hi => ?_, rfl, rfl⟩, ⟨by show k < _; omega, rfl⟩, ⟨hp, hL⟩, by have := mL k (by omega); show Wj x k + ((0 : Nat) : Int) <= pvB x k; omega, rfl⟩, ?_⟩⟩, λ hge => ?_⟩
  ·refine ASG hc ha (k := k) (by omega) ?_
   show (pvK x k && Tk x.c (gD x.l k) && _) = false
   rw [hL]; simp
  ·show (mtF x k i || (decide (Wj x k <= i) && decide ((i : Int) < Wj x k + ((0 : Nat) : Int)))) = mtF x k i
   rw [show (decide (Wj x k <= i) && decide ((i : Int) < Wj x k + ((0 : Nat) : Int))) = false by simp, Bool.or_false]
  ·rintro ⟨i, j⟩ ⟨⟨y1, y2⟩, ⟨y3, y4⟩, y5, y6⟩
   dsimp only at y1 y2 y3 y4 y5 y6 ⊢
   simp only [eB]
   have a1 := mA i y1
   have b1 := mB i y1
   have l1 := mL i y1
   have e : (Wj x i + (j : Int)).toNat = (Wj x i).toNat + j := by omega
   have eG : mtG x i j ((Wj x i).toNat + j) = mtF x i ((Wj x i).toNat + j) := by
    show (mtF x i _ || (decide (Wj x i <= _) && decide (_ < Wj x i + (j : Int)))) = _
    rw [decide_eq_false (show ¬(((Wj x i).toNat + j : Nat) : Int) < Wj x i + (j : Int) by omega), Bool.and_false, Bool.or_false]
   refine ⟨(hP i y1).1.2, λ hb => ⟨⟨⟨by omega, by omega⟩, by omega⟩, λ hm => ?_, λ hm => ⟨⟨⟨by omega, by omega⟩, by omega⟩, ⟨i, j + 1⟩, ⟨?_, rfl, λ t ht => ?_, rfl, rfl⟩, ⟨⟨y1, y2⟩, ⟨y3, y4⟩, by show Wj x i + ((j + 1 : Nat) : Int) <= pvB x i; omega, ?_⟩, by show 50 - (j + 1) < _; omega⟩⟩, λ hb => ⟨i + 1, ⟨by rw [Dh (by omega) (by omega)]; rfl, λ t ht => ?_⟩, ⟨by omega, ?_⟩, by omega⟩⟩
   ·rw [e, eG] at hm
    refine ASG hc ha (k := i) y1 ?_
    have h9 : xT (mtF x i) (Wj x i).toNat (j + 1) = true := by
     show (xT _ _ _ || _) = true
     rw [hm, Bool.or_true]
    show (pvK x i && Tk x.c (gD x.l i) && !xT _ _ _) = false
    rw [BAE (show j + 1 <= (pvB x i - Wj x i).toNat by omega) h9]; simp
   ·show Wj x i + ((j + 1 : Nat) : Int) = _
    rw [Dh (by omega) (by omega)]; omega
   ·show (mtF x i t || (decide (Wj x i <= t) && decide ((t : Int) < Wj x i + ((j + 1 : Nat) : Int)))) = bif _ then true else (mtF x i t || (decide (Wj x i <= t) && decide ((t : Int) < Wj x i + (j : Int))))
    rw [e]
    by_cases h7 : t = (Wj x i).toNat + j
    ·rw [decide_eq_true h7, decide_eq_true (show Wj x i <= t by omega), decide_eq_true (show (t : Int) < Wj x i + ((j + 1 : Nat) : Int) by omega)]; simp
    ·rw [decide_eq_false h7]
     show _ = (mtF x i t || _)
     congr 2
     exact decide_eq_decide.2 (by omega)
   ·rw [e, eG] at hm
    show (xT _ _ _ || _) = false
    rw [y6, hm]; rfl
   ·have e3 : Wj x i + (j : Int) = pvB x i := by omega
    show (mtF x i t || _) = (mtF x i t || (decide (Wj x i <= t) && decide ((t : Int) < Wj x i + (j : Int))))
    rw [e3]
   ·have e3 : (pvB x i - Wj x i).toNat = j := by omega
    show (pvK x i && Tk x.c (gD x.l i) && !xT _ _ _) = true
    rw [e3, y3, y4, y6]; rfl
  ·have e : k = x.l.length := by omega
   subst e
   unfold Kw; rw [decide_eq_false hc, ha, hp]; exact ⟨by simp, rfl⟩
theorem BFB : AK Try.prog Y6 (C_prov.spec dPrv) := okT C_prov (λ (x : Prv) h => by
 have h1 : x.c.ms.length < 4611686018427387904 /\ x.c.ns.length < 4611686018427387904 /\ x.l.length < 4611686018427387904 := h
 by_cases h0 : AU x.c = 0
 ·have e : C_prov.val x = .tup [.bool (Kw x).1, .int (Kw x).2] := by
   show AVal.tup [.bool (G2 x).1, .int (G2 x).2] = _
   unfold G2; rw [h0]; rfl
  rw [e]
  exact Rc (A := AXQ x) (L := []) (keep := []) (ren := []) (fz := []) ABZ (by kernel_rfl) (AA uH (AA BQN (AA ARW AD))) (BMI x h1 h0)
 ·have h0' : (AU x.c == 0) = false := by simpa using h0
  have e : C_prov.val x = .tup [.bool false, .int (AU x.c)] := by
   show AVal.tup [.bool (G2 x).1, .int (G2 x).2] = _
   unfold G2; rw [h0']; rfl
  rw [e]
  refine Rc (A := API) (L := []) (keep := []) (ren := []) (fz := []) ABZ (by kernel_rfl) (AA uJ AD) ?_
  show ASA x; rw [AXF]<;> delta KY Aq BA BI FW EX FI CE AC BX CM AQ BU DX ER GP GA HQ HT HC HR DS GB ED As TU NG Ow WQ Wx AE BG AW EO GJ GI AG GM BF BE CK AR CN BD AF JJ CG EZ AO CQ GT BS CV JL CY BO CR DD AL KA CF AM AT DM DR RB AS DJ EG FC AP EY FG FS EN CS FV DF KB LQ FU EH ET LP FY FJ EV EJ JS KV DV HJ BK IT KF LM BM EP FQ AZ HE GO BJ OT SD VY UN ZZ Cn Fs NE XU Gg; simp only [CC, eq_self, implies_true, forall_const, DN]
  simp [h1, h0]) _
end Go.Bal
