/- Package chart: Late, Proves. -/
import Derived.Test.YtdbjalgfomknhaaChK
set_option linter.unusedVariables false
set_option linter.unusedSimpArgs false
namespace Go.Bal
open Go Go.Sym Go.Proofs
structure Prv where
 c : Cht
 m : Int
 l : List Pr
def dPrv : List AVal -> Heap -> Option (Prv × List (Nat × Nat) × List Nat)
 | [x, .d m, y], H => match BYW x H, yW y H with
  | some (c, f), some (n, g, e) => some (⟨c, CL m, AE n λ i => dPr (g i)⟩, [], f ++ e)
  | _, _ => none
 | _, _ => none
def xPrv (x : Prv) : List AVal := [.d (YE x.c), .int x.m, .d (Cx x.l)]
def UW (x : Prv) (k : Nat) : Int := (nA x.c (gD x.l k)).mi
def pvB (x : Prv) (k : Nat) : Int := (nB x.c (gD x.l k)).mi
def mtF (x : Prv) : Nat -> Nat -> Bool
 | 0, _ => false
 | k + 1, i => mtF x k i || (decide (UW x k <= i) && decide ((i : Int) < pvB x k))
def hitJ (f : Nat -> Bool) (a : Nat) : Nat -> Bool
 | 0 => false
 | j + 1 => hitJ f a j || f (a + j)
def pvK (x : Prv) : Nat -> Bool
 | 0 => true
 | k + 1 => pvK x k && PO x.c (gD x.l k) && !hitJ (mtF x k) (UW x k).toNat (pvB x k - UW x k).toNat
def LQ (x : Prv) : Bool × Int := bif decide ((x.l.length : Int) > 40) then (false, 3) else bif !(x.l.all λ p => IH x.c p) then (false, 2) else (pvK x x.l.length && decide ((x.l.length : Int) >= x.m), 0)
def AMF (x : Prv) : Bool × Int := bif AK x.c == 0 then LQ x else (false, AK x.c)
def C_prov : Ctr := { α := Prv, xs := xPrv, val := λ x => .tup [.bool (AMF x).1, .int (AMF x).2], keep := λ _ => [], pre := λ x => [x.c.ms.length < 4611686018427387904 /\ x.c.ns.length < 4611686018427387904 /\ x.l.length < 4611686018427387904] }
def pvS (x : Prv) (k : Nat) : List (Nat × AVal) := [(1, .int x.m), (2, .d (Cx x.l)), (3, .bptr 201 0), (8, .bptr 203 0), (10, .rptr 205 1 0 0), (33, .d (Cx x.l)), (34, .int x.l.length), (35, .int k)]
def pvH (x : Prv) (f : Nat -> Bool) : List (Nat × HCell) := [(201, .live (chB x.c)), (203, .live (dkB (AH x.c) 204)), (204, .live (dkM (AH x.c))), (205, .live (.row 1 40 λ i => .v (.bool (f i))))]
def pv10 (x : Prv) : Shape := { α := Nat, dflt := 0, T := λ k => ⟨pvS x k, pvH x (mtF x k)⟩, inv := λ k => k <= x.l.length /\ pvK x k = true, meas := λ k => x.l.length - k, first := [(201, 1000), (203, 2016), (204, 2017), (205, 9000)] }
def mtG (x : Prv) (k j : Nat) : Nat -> Bool := λ i => mtF x k i || (decide (UW x k <= i) && decide ((i : Int) < UW x k + j))
def pv15 (x : Prv) (m : Nat) : Shape := { α := IJ, dflt := default, T := λ s => ⟨[(12, .bptr 206 0), (13, .int (UW x s.i + s.j))] ++ pvS x s.i, pvH x (mtG x s.i s.j) ++ [(206, .live (.box [.int (gD x.l s.i).a, .int (gD x.l s.i).b]))]⟩, inv := λ s => (s.i < x.l.length /\ x.l.length - s.i = m) /\ (pvK x s.i = true /\ PO x.c (gD x.l s.i) = true) /\ (UW x s.i + s.j <= pvB x s.i /\ hitJ (mtF x s.i) (UW x s.i).toNat s.j = false), meas := λ s => 50 - s.j, first := [(206, 12032)] }
def CIF (x : Prv) : Ann := { ann 71 [(GX, C_open.spec dC1), (n_eP, C4Pp.spec d4Pp), (BQV, C_late.spec dDkP)] with loops := λ id => if id = 10 then some [pv10 x] else none, inner := λ gs id => if id = 15 then some [pv15 x (gs.getD 0 0)] else none }
def CJJ (x : Prv) : Prop := BB Try.prog (CIF x) Ru (AL Ru) (xPrv x) (AG []) (.tup [.bool (LQ x).1, .int (LQ x).2]) [] [] []
abbrev Cc (x : Prv) : Prop := x.c.p.lo = x.c.p.lo
abbrev YT (x : Prv) : Prop := x.c.p.hi = x.c.p.hi
abbrev vD (x : Prv) : List Mk := AE x.c.ms.length λ (i : Nat) => gD x.c.ms i
abbrev L2 (x : Prv) : Nat := (vD x).length
abbrev AYE (x : Prv) (i : Nat) : Mk := gD (vD x) i
abbrev M1 (x : Prv) : List Nt := AE x.c.ns.length λ (i : Nat) => gD x.c.ns i
abbrev vS (x : Prv) : Nat := (M1 x).length
abbrev vY (x : Prv) (i : Nat) : Nt := gD (M1 x) i
abbrev BIW (x : Prv) (i : Nat) : Span := (vY x i).t
abbrev AXW (x : Prv) (i : Nat) : Span := (vY x i).s
abbrev ABJ (x : Prv) : Cht := Cht.mk x.c.p x.c.base x.c.scale x.c.off (vD x) (M1 x)
abbrev bE (x : Prv) : List Pr := AE x.l.length λ (i : Nat) => gD x.l i
abbrev eL (x : Prv) : Nat := (bE x).length
abbrev AFM (x : Prv) (i : Nat) : Pr := gD (bE x) i
abbrev AHW (x : Prv) : Dk := AH (ABJ x)
abbrev LY (x : Prv) : Cht := (AHW x).c
abbrev aP (x : Prv) : Span := (LY x).p
abbrev aR (x : Prv) : Int := (aP x).lo
abbrev ALJ (x : Prv) : Prop := aR x = aR x
abbrev aM (x : Prv) : Int := (aP x).hi
abbrev U0 (x : Prv) : Prop := aM x = aM x
abbrev Bj (x : Prv) : Int := (LY x).base
abbrev V1 (x : Prv) : Prop := Bj x = Bj x
abbrev By (x : Prv) : Int := (LY x).scale
abbrev R3 (x : Prv) : Prop := By x = By x
abbrev YY (x : Prv) : Int := (LY x).off
abbrev AAU (x : Prv) : Prop := YY x = YY x
abbrev R0 (x : Prv) : List Mk := (LY x).ms
abbrev RI (x : Prv) : Nat := (R0 x).length
abbrev Zj (x : Prv) (i : Nat) : Mk := gD (R0 x) i
abbrev cB (x : Prv) : List Mk := AE (RI x) λ (i : Nat) => Zj x i
abbrev Yh (x : Prv) : Nat := (cB x).length
abbrev AAW (x : Prv) (i : Nat) : Mk := gD (cB x) i
abbrev AHY (x : Prv) (i : Nat) : Int := (AAW x i).pl
abbrev eS (x : Prv) (i : Nat) : Int := (Zj x i).pl
abbrev O6 (x : Prv) (i : Nat) : Int := (AAW x i).ht
abbrev cM (x : Prv) (i : Nat) : Int := (Zj x i).ht
abbrev Bc (x : Prv) : List Nt := (LY x).ns
abbrev RG (x : Prv) : Nat := (Bc x).length
abbrev ZP (x : Prv) (i : Nat) : Nt := gD (Bc x) i
abbrev QZ (x : Prv) : List Nt := AE (RG x) λ (i : Nat) => ZP x i
abbrev YM (x : Prv) : Nat := (QZ x).length
abbrev dT (x : Prv) (i : Nat) : Nt := gD (QZ x) i
abbrev AKJ (x : Prv) (i : Nat) : Int := (dT x i).mi
abbrev dC (x : Prv) (i : Nat) : Int := (ZP x i).mi
abbrev ADA (x : Prv) (i : Nat) : Span := (dT x i).t
abbrev AEV (x : Prv) (i : Nat) : Int := (ADA x i).lo
abbrev AKR (x : Prv) (i : Nat) : Span := (ZP x i).t
abbrev aO (x : Prv) (i : Nat) : Int := (AKR x i).lo
abbrev ABX (x : Prv) (i : Nat) : Int := (ADA x i).hi
abbrev aT (x : Prv) (i : Nat) : Int := (AKR x i).hi
abbrev O9 (x : Prv) (i : Nat) : Span := (dT x i).s
abbrev AGV (x : Prv) (i : Nat) : Int := (O9 x i).lo
abbrev AIS (x : Prv) (i : Nat) : Span := (ZP x i).s
abbrev Zg (x : Prv) (i : Nat) : Int := (AIS x i).lo
abbrev W7 (x : Prv) (i : Nat) : Int := (O9 x i).hi
abbrev dQ (x : Prv) (i : Nat) : Int := (AIS x i).hi
abbrev IP : Prop := ∀ (i : Nat), i < 40 -> false = false
abbrev AKM (x : Prv) (n : Int) : Bool := hasN (QZ x) n
abbrev cR (x : Prv) (n : Int) : Bool := hasN (Bc x) n
abbrev aV (x : Prv) (n : Int) : Int := (AHW x).st n
abbrev T1 (x : Prv) : Prop := ∀ (n : Int), aV x n = aV x n
abbrev cV (x : Prv) (n : Int) : Nt := ntOf (QZ x) n
abbrev AKQ (x : Prv) (n : Int) : Int := (cV x n).mi
abbrev Zo (x : Prv) (n : Int) : Nt := ntOf (Bc x) n
abbrev Xe (x : Prv) (n : Int) : Int := (Zo x n).mi
abbrev AKN (x : Prv) (n : Int) : Span := (cV x n).t
abbrev Y4 (x : Prv) (n : Int) : Int := (AKN x n).lo
abbrev ABW (x : Prv) (n : Int) : Span := (Zo x n).t
abbrev aQ (x : Prv) (n : Int) : Int := (ABW x n).lo
abbrev AGM (x : Prv) (n : Int) : Int := (AKN x n).hi
abbrev cH (x : Prv) (n : Int) : Int := (ABW x n).hi
abbrev ACR (x : Prv) (n : Int) : Span := (cV x n).s
abbrev AHM (x : Prv) (n : Int) : Int := (ACR x n).lo
abbrev AGO (x : Prv) (n : Int) : Span := (Zo x n).s
abbrev cA (x : Prv) (n : Int) : Int := (AGO x n).lo
abbrev ABI (x : Prv) (n : Int) : Int := (ACR x n).hi
abbrev Za (x : Prv) (n : Int) : Int := (AGO x n).hi
abbrev IS (x : Prv) : Prop := x.l.length = x.l.length
abbrev ADH (x : Prv) (i : Nat) : Prop := (gD x.l i).a = (gD x.l i).a
abbrev ADP (x : Prv) (i : Nat) : Prop := (gD x.l i).b = (gD x.l i).b
abbrev IR (x : Prv) : Prop := ∀ (i : Nat), i < x.l.length -> ADH x i /\ ADP x i
abbrev ZJ : Prop := 0 = 0
abbrev Ca (x : Prv) : Prop := (↑x.l.length : Int) = (↑x.l.length : Int)
abbrev Cl (x : Prv) : Prop := x.c.ms.length = x.c.ms.length
abbrev Ct (x : Prv) : Prop := ∀ (i : Nat), i < x.c.ms.length -> (gD x.c.ms i).pl = (gD x.c.ms i).pl /\ (gD x.c.ms i).ht = (gD x.c.ms i).ht
abbrev Ae (x : Prv) : Prop := x.c.ns.length = x.c.ns.length
abbrev Af (x : Prv) : Prop := ∀ (i : Nat), i < x.c.ns.length -> (gD x.c.ns i).mi = (gD x.c.ns i).mi /\ (gD x.c.ns i).t.lo = (gD x.c.ns i).t.lo /\ (gD x.c.ns i).t.hi = (gD x.c.ns i).t.hi /\ (gD x.c.ns i).s.lo = (gD
 x.c.ns i).s.lo /\ (gD x.c.ns i).s.hi = (gD x.c.ns i).s.hi
abbrev cQ (i : Nat) (x : Prv) : Prop := i < (AH x.c).c.ms.length
abbrev QP (x : Prv) (i : Nat) : Int := (gD (AH x.c).c.ms i).pl
abbrev QO (x : Prv) (i : Nat) : Int := (gD (AH x.c).c.ms i).ht
abbrev dD (i : Nat) (x : Prv) : Prop := i < (AH x.c).c.ns.length
abbrev RQ (x : Prv) (i : Nat) : Int := (gD (AH x.c).c.ns i).mi
abbrev S5 (x : Prv) (i : Nat) : Span := (gD (AH x.c).c.ns i).t
abbrev RF (x : Prv) (i : Nat) : Int := (S5 x i).lo
abbrev QS (x : Prv) (i : Nat) : Int := (S5 x i).hi
abbrev Y6 (x : Prv) (i : Nat) : Span := (gD (AH x.c).c.ns i).s
abbrev RC (x : Prv) (i : Nat) : Int := (Y6 x i).lo
abbrev QU (x : Prv) (i : Nat) : Int := (Y6 x i).hi
abbrev ZU : Prop := 40 = 40
abbrev Hm (a : Nat) (x : Prv) : Prop := a <= x.l.length /\ pvK x a = true
abbrev oZ (a : Nat) (x : Prv) : Prop := (↑a : Int) < (↑x.l.length : Int)
abbrev MP (x : Prv) : Prop := (AH x.c).c.p.lo = (AH x.c).c.p.lo
abbrev MM (x : Prv) : Prop := (AH x.c).c.p.hi = (AH x.c).c.p.hi
abbrev MG (x : Prv) : Prop := (AH x.c).c.base = (AH x.c).c.base
abbrev NN (x : Prv) : Prop := (AH x.c).c.scale = (AH x.c).c.scale
abbrev MJ (x : Prv) : Prop := (AH x.c).c.off = (AH x.c).c.off
abbrev Ek (x : Prv) : List Mk := AE (AH x.c).c.ms.length λ (i : Nat) => gD (AH x.c).c.ms i
abbrev NE (x : Prv) : Nat := (Ek x).length
abbrev nK (x : Prv) (i : Nat) : Mk := gD (Ek x) i
abbrev mT (x : Prv) (i : Nat) : Int := (nK x i).pl
abbrev kB (x : Prv) (i : Nat) : Int := (nK x i).ht
abbrev MD (x : Prv) : List Nt := AE (AH x.c).c.ns.length λ (i : Nat) => gD (AH x.c).c.ns i
abbrev JK (x : Prv) : Nat := (MD x).length
abbrev kH (i : Nat) (x : Prv) : Prop := i < JK x
abbrev Ee (x : Prv) (i : Nat) : Nt := gD (MD x) i
abbrev SQ (x : Prv) (i : Nat) : Int := (Ee x i).mi
abbrev mR (x : Prv) (i : Nat) : Span := (Ee x i).t
abbrev qW (x : Prv) (i : Nat) : Int := (mR x i).lo
abbrev nX (x : Prv) (i : Nat) : Int := (mR x i).hi
abbrev gQ (x : Prv) (i : Nat) : Span := (Ee x i).s
abbrev kO (x : Prv) (i : Nat) : Int := (gQ x i).lo
abbrev mW (x : Prv) (i : Nat) : Int := (gQ x i).hi
abbrev iL (x : Prv) (n : Int) : Bool := hasN (MD x) n
abbrev LV (x : Prv) : Prop := ∀ (n : Int), (AH x.c).st n = (AH x.c).st n
abbrev Hn (x : Prv) (n : Int) : Nt := ntOf (MD x) n
abbrev lG (x : Prv) (n : Int) : Int := (Hn x n).mi
abbrev rZ (x : Prv) (n : Int) : Span := (Hn x n).t
abbrev jS (x : Prv) (n : Int) : Int := (rZ x n).lo
abbrev oX (x : Prv) (n : Int) : Int := (rZ x n).hi
abbrev oV (x : Prv) (n : Int) : Span := (Hn x n).s
abbrev jL (x : Prv) (n : Int) : Int := (oV x n).lo
abbrev rB (x : Prv) (n : Int) : Int := (oV x n).hi
abbrev nY (x : Prv) (a : Nat) : Prop := 0 <= (gD x.l a).a
abbrev jN (x : Prv) : Prop := (LQ x).snd = 0
abbrev oT (x : Prv) : Prop := (LQ x).fst = false /\ jN x
abbrev GM (x : Prv) (a : IJ) : Int := UW x a.i + (↑a.j : Int)
abbrev Ho (x : Prv) : Prop := (AH x.c).c.ms.length = (AH x.c).c.ms.length
abbrev Ir (x : Prv) : Prop := ∀ (i : Nat), cQ i x -> QP x i = QP x i /\ QO x i = QO x i
abbrev Eh (x : Prv) : Prop := (AH x.c).c.ns.length = (AH x.c).c.ns.length
abbrev Gq (x : Prv) : Prop := ∀ (i : Nat), dD i x -> RQ x i = RQ x i /\ RF x i = RF x i /\ QS x i = QS x i /\ RC x i = RC x i /\ QU x i = QU
 x i
abbrev Hk (x : Prv) : Prop := ∀ (n : Int), hasN (AH x.c).c.ns n = hasN (AH x.c).c.ns n
abbrev Gm (x : Prv) : Prop := ∀ (n : Int), (ntOf (AH x.c).c.ns n).mi = (ntOf (AH x.c).c.ns n).mi /\ (ntOf (AH x.c).c.ns n).t.lo = (ntOf (AH x.c).c.ns n).t.lo /\ (ntOf (AH x.c).c.ns n).t.hi = (ntOf (AH
 x.c).c.ns n).t.hi /\ (ntOf (AH x.c).c.ns n).s.lo = (ntOf (AH x.c).c.ns n).s.lo /\ (ntOf (AH x.c).c.ns n).s.hi = (ntOf (AH x.c).c.ns n).s.hi
abbrev Er (x : Prv) (a : Nat) : Nat := x.l.length - a
abbrev Fs (a : IJ) (x : Prv) (a1 : Nat) : Prop := (a.i < x.l.length /\ x.l.length - a.i = Er x a1) /\ (pvK x a.i = true /\ PO x.c (gD x.l a.i) = true) /\ GM x a <= pvB x a.i /\ hitJ (mtF x a.i) (UW
 x a.i).toNat a.j = false
abbrev Hi (x : Prv) (a : IJ) : Nat := (GM x a).toNat
abbrev oU (x : Prv) (a : IJ) : Prop := (0 <= GM x a /\ GM x a < (↑40 : Int)) /\ (Hi x a).succ.le 40
abbrev pA (a : IJ) : Nat := 50 - a.j
theorem CPA (x : Prv) : (CJJ x) = ((Cc x /\ YT x /\ x.c.base = x.c.base /\ x.c.scale = x.c.scale /\ x.c.off = x.c.off /\ L2 x = x.c.ms.length /\ (∀ (i : Nat), i < L2 x -> (AYE x i).pl = (gD
 x.c.ms i).pl /\ (AYE x i).ht = (gD x.c.ms i).ht) /\ vS x = x.c.ns.length /\ (∀ (i : Nat), i < vS x -> (vY x i).mi = (gD x.c.ns i).mi /\ (BIW x i).lo = (gD x.c.ns i).t.lo /\ (BIW x i).hi = (gD
 x.c.ns i).t.hi /\ (AXW x i).lo = (gD x.c.ns i).s.lo /\ (AXW x i).hi = (gD x.c.ns i).s.hi) /\ (L2 x < 4611686018427387904 /\ vS x < 4611686018427387904) /\ AK (ABJ x) = 0) /\ bif decide
 ((↑x.l.length : Int) > 40) then (LQ x).fst = false /\ (LQ x).snd = 3 else (eL x = x.l.length /\ (∀ (i : Nat), i < eL x -> (AFM x i).a = (gD x.l i).a /\ (AFM x i).b = (gD x.l i).b) /\ ALJ
 x /\ U0 x /\ V1 x /\ R3 x /\ AAU x /\ Yh x = RI x /\ (∀ (i : Nat), i < Yh x -> AHY x i = eS x i /\ O6 x i = cM x i) /\ YM x = RG x /\ (∀ (i :
 Nat), i < YM x -> AKJ x i = dC x i /\ AEV x i = aO x i /\ ABX x i = aT x i /\ AGV x i = Zg x i /\ W7 x i = dQ x i) /\ IP /\ AT = AT /\ (∀ (n :
 Int), AKM x n = cR x n) /\ T1 x /\ (∀ (n : Int), AKQ x n = Xe x n /\ Y4 x n = aQ x n /\ AGM x n = cH x n /\ AHM x n = cA x n /\ ABI x n = Za
 x n) /\ ALJ x /\ U0 x /\ V1 x /\ R3 x /\ AAU x /\ RI x = Yh x /\ (∀ (i : Nat), i < RI x -> eS x i = AHY x i /\ cM x i = O6 x i) /\ RG x =
 YM x /\ (∀ (i : Nat), i < RG x -> dC x i = AKJ x i /\ aO x i = AEV x i /\ aT x i = ABX x i /\ Zg x i = AGV x i /\ dQ x i = W7 x i) /\ IP /\
 AT = AT /\ (∀ (n : Int), cR x n = AKM x n) /\ T1 x /\ (∀ (n : Int), Xe x n = AKQ x n /\ aQ x n = Y4 x n /\ cH x n = AGM x n /\ cA x n = AHM x n /\
 Za x n = ABI x n) /\ eL x < 4611686018427387904 /\ YM x < 1073741824) /\ bif !(bE x).all λ (x_1 : Pr) => IH (Cht.mk (aP x) (Bj x) (By x) (YY x) (cB
 x) (QZ x)) x_1 then (LQ x).fst = false /\ (LQ x).snd = 2 else (Value.agg #[Value.bool false, Value.bool false, Value.bool false, Value.bool false, Value.bool false, Value.bool false, Value.bool false,
 Value.bool false, Value.bool false, Value.bool false, Value.bool false, Value.bool false, Value.bool false, Value.bool false, Value.bool false, Value.bool false, Value.bool false, Value.bool false, Value.bool false,
 Value.bool false, Value.bool false, Value.bool false, Value.bool false, Value.bool false, Value.bool false, Value.bool false, Value.bool false, Value.bool false, Value.bool false, Value.bool false, Value.bool false,
 Value.bool false, Value.bool false, Value.bool false, Value.bool false, Value.bool false, Value.bool false, Value.bool false, Value.bool false, Value.bool false]).cells.toList = (List.replicate 40 (Value.bool
 false).cells.toList).flatten /\ (∃ (a : Nat), (x.m = x.m /\ IS x /\ IR x /\ ZJ /\ IS x /\ IR x /\ Ca x /\ (↑a : Int) = 0 /\ Cc x /\ YT x /\ x.c.base = x.c.base /\ x.c.scale =
 x.c.scale /\ x.c.off = x.c.off /\ Cl x /\ Ct x /\ Ae x /\ Af x /\ (AH x.c).c.p.lo = aR x /\ (AH x.c).c.p.hi = aM x /\ (AH x.c).c.base = Bj x /\ (AH x.c).c.scale = By
 x /\ (AH x.c).c.off = YY x /\ (AH x.c).c.ms.length = RI x /\ (∀ (i : Nat), cQ i x -> QP x i = eS x i /\ QO x i = cM x i) /\ (AH x.c).c.ns.length = RG x /\ (∀ (i :
 Nat), dD i x -> RQ x i = dC x i /\ RF x i = aO x i /\ QS x i = aT x i /\ RC x i = Zg x i /\ QU x i = dQ x i) /\ IP /\ AT = AT /\ (∀ (n : Int),
 hasN (AH x.c).c.ns n = cR x n) /\ (∀ (n : Int), (AH x.c).st n = aV x n) /\ (∀ (n : Int), (ntOf (AH x.c).c.ns n).mi = Xe x n /\ (ntOf (AH x.c).c.ns n).t.lo = aQ x n /\ (ntOf (AH x.c).c.ns
 n).t.hi = cH x n /\ (ntOf (AH x.c).c.ns n).s.lo = cA x n /\ (ntOf (AH x.c).c.ns n).s.hi = Za x n) /\ ZU /\ ∀ (i : Nat), i < 40 -> mtF x a i = false) /\ Hm a x) /\ ∀ (a : Nat), Hm
 a x -> bif decide (oZ a x) then (0 <= (↑a : Int) /\ oZ a x) /\ (ADH x a /\ ADP x a /\ MP x /\ MM x /\ MG x /\ NN x /\ MJ x /\ NE x = (AH x.c).c.ms.length
 /\ (∀ (i : Nat), i < NE x -> mT x i = QP x i /\ kB x i = QO x i) /\ JK x = (AH x.c).c.ns.length /\ (∀ (i : Nat), kH i x -> SQ x i = RQ x i /\ qW x i
 = RF x i /\ nX x i = QS x i /\ kO x i = RC x i /\ mW x i = QU x i) /\ IP /\ AT = AT /\ (∀ (n : Int), iL x n = hasN (AH x.c).c.ns n) /\ LV x /\ (∀ (n
 : Int), lG x n = (ntOf (AH x.c).c.ns n).mi /\ jS x n = (ntOf (AH x.c).c.ns n).t.lo /\ oX x n = (ntOf (AH x.c).c.ns n).t.hi /\ jL x n = (ntOf (AH x.c).c.ns n).s.lo /\ rB x n =
 (ntOf (AH x.c).c.ns n).s.hi) /\ MP x /\ MM x /\ MG x /\ NN x /\ MJ x /\ (AH x.c).c.ms.length = NE x /\ (∀ (i : Nat), cQ i x -> QP x i = mT x i /\ QO
 x i = kB x i) /\ (AH x.c).c.ns.length = JK x /\ (∀ (i : Nat), dD i x -> RQ x i = SQ x i /\ RF x i = qW x i /\ QS x i = nX x i /\ RC x i = kO
 x i /\ QU x i = mW x i) /\ IP /\ AT = AT /\ (∀ (n : Int), hasN (AH x.c).c.ns n = iL x n) /\ LV x /\ (∀ (n : Int), (ntOf (AH x.c).c.ns n).mi = lG x n /\ (ntOf (AH x.c).c.ns
 n).t.lo = jS x n /\ (ntOf (AH x.c).c.ns n).t.hi = oX x n /\ (ntOf (AH x.c).c.ns n).s.lo = jL x n /\ (ntOf (AH x.c).c.ns n).s.hi = rB x n) /\ ((nY x a /\ (gD x.l a).a <
 (↑(JK x) : Int)) /\ 0 <= (gD x.l a).b /\ (gD x.l a).b < (↑(JK x) : Int)) /\ (NE x <= 40 /\ JK x <= 20) /\ ∀ (i : Nat), kH i x -> 0 <= SQ x i /\ SQ x i < (↑(NE x) :
 Int)) /\ bif !PO (Cht.mk (AH x.c).c.p (AH x.c).c.base (AH x.c).c.scale (AH x.c).c.off (Ek x) (MD x)) (gD x.l a) then oT x else (nY x a /\ (gD x.l a).a < (↑x.c.ns.length : Int)) /\
 (∃ (a_2 : IJ), (GM x a_2 = (gD x.c.ns (gD x.l a).a.toNat).mi /\ x.m = x.m /\ IS x /\ IR x /\ ZJ /\ IS x /\ IR x /\ Ca x /\ (↑a_2.i : Int) = (↑a : Int) /\ Cc x /\ YT x /\
 x.c.base = x.c.base /\ x.c.scale = x.c.scale /\ x.c.off = x.c.off /\ Cl x /\ Ct x /\ Ae x /\ Af x /\ MP x /\ MM x /\ MG x /\ NN x /\ MJ x /\ Ho x /\
 Ir x /\ Eh x /\ Gq x /\ IP /\ AT = AT /\ Hk x /\ LV x /\ Gm x /\ ZU /\ (∀ (i : Nat), i < 40 -> mtG x a_2.i a_2.j i = mtF x a i) /\ (gD x.l a_2.i).a = (gD x.l a).a /\
 (gD x.l a_2.i).b = (gD x.l a).b) /\ Fs a_2 x a) /\ ∀ (a_2 : IJ), Fs a_2 x a -> (0 <= (gD x.l a_2.i).b /\ (gD x.l a_2.i).b < (↑x.c.ns.length : Int)) /\ bif decide (GM x a_2 < (gD x.c.ns (gD x.l
 a_2.i).b.toNat).mi) then oU x a_2 /\ bif mtG x a_2.i a_2.j (Hi x a_2) then oT x else oU x a_2 /\ ∃ (a_4 : IJ), (GM x a_4 = IntKind.i64.wrap (GM x a_2 + 1) /\ x.m = x.m /\
 IS x /\ IR x /\ ZJ /\ IS x /\ IR x /\ Ca x /\ (↑a_4.i : Int) = (↑a_2.i : Int) /\ Cc x /\ YT x /\ x.c.base = x.c.base /\ x.c.scale = x.c.scale /\ x.c.off = x.c.off /\ Cl x
 /\ Ct x /\ Ae x /\ Af x /\ MP x /\ MM x /\ MG x /\ NN x /\ MJ x /\ Ho x /\ Ir x /\ Eh x /\ Gq x /\ IP /\ AT = AT /\ Hk x /\
 LV x /\ Gm x /\ ZU /\ (∀ (i : Nat), i < 40 -> mtG x a_4.i a_4.j i = bif decide (i = Hi x a_2) then true else mtG x a_2.i a_2.j i) /\ (gD x.l a_4.i).a = (gD x.l a_2.i).a /\ (gD x.l a_4.i).b = (gD
 x.l a_2.i).b) /\ Fs a_4 x a /\ pA a_4 < pA a_2 else ∃ (a_4 : Nat), (x.m = x.m /\ IS x /\ IR x /\ ZJ /\ IS x /\ IR x /\ Ca x /\ (↑a_4 : Int) = IntKind.i64.wrap
 ((↑a_2.i : Int) + 1) /\ Cc x /\ YT x /\ x.c.base = x.c.base /\ x.c.scale = x.c.scale /\ x.c.off = x.c.off /\ Cl x /\ Ct x /\ Ae x /\ Af x /\ MP x /\ MM x /\ MG x /\
 NN x /\ MJ x /\ Ho x /\ Ir x /\ Eh x /\ Gq x /\ IP /\ AT = AT /\ Hk x /\ LV x /\ Gm x /\ ZU /\ ∀ (i : Nat), i < 40 -> mtF x a_4 i = mtG x a_2.i
 a_2.j i) /\ Hm a_4 x /\ Er x a_4 < Er x a else (LQ x).fst = decide ((↑x.l.length : Int) >= x.m) /\ jN x) := by kernel_rfl
def CFV : Ann := ann 71 [(GX, C_openX.spec dC1)]
def CCZ (x : Prv) : Prop := BB Try.prog CFV Ru (AL Ru) (xPrv x) (AG []) (.tup [.bool false, .int (AK x.c)]) [] [] []
theorem CLM (x : Prv) : (CCZ x) = ((x.c.p.lo = x.c.p.lo /\ x.c.p.hi = x.c.p.hi /\ x.c.base = x.c.base /\ x.c.scale = x.c.scale /\ x.c.off = x.c.off /\ (AE x.c.ms.length λ (i : Nat) => gD x.c.ms i).length =
 x.c.ms.length /\ (∀ (i : Nat), i < (AE x.c.ms.length λ (i : Nat) => gD x.c.ms i).length -> (gD (AE x.c.ms.length λ (i : Nat) => gD x.c.ms i) i).pl = (gD x.c.ms i).pl /\ (gD (AE x.c.ms.length λ (i : Nat) => gD
 x.c.ms i) i).ht = (gD x.c.ms i).ht) /\ (AE x.c.ns.length λ (i : Nat) => gD x.c.ns i).length = x.c.ns.length /\ (∀ (i : Nat), i < (AE x.c.ns.length λ (i : Nat) => gD x.c.ns i).length -> (gD (AE x.c.ns.length λ (i :
 Nat) => gD x.c.ns i) i).mi = (gD x.c.ns i).mi /\ (gD (AE x.c.ns.length λ (i : Nat) => gD x.c.ns i) i).t.lo = (gD x.c.ns i).t.lo /\ (gD (AE x.c.ns.length λ (i : Nat) => gD x.c.ns i) i).t.hi = (gD x.c.ns i).t.hi /\ (gD
 (AE x.c.ns.length λ (i : Nat) => gD x.c.ns i) i).s.lo = (gD x.c.ns i).s.lo /\ (gD (AE x.c.ns.length λ (i : Nat) => gD x.c.ns i) i).s.hi = (gD x.c.ns i).s.hi) /\ ((AE x.c.ms.length λ (i : Nat) => gD x.c.ms
 i).length < 4611686018427387904 /\ (AE x.c.ns.length λ (i : Nat) => gD x.c.ns i).length < 4611686018427387904) /\ AK (Cht.mk x.c.p x.c.base x.c.scale x.c.off (AE x.c.ms.length λ (i : Nat) => gD x.c.ms i) (AE
 x.c.ns.length λ (i : Nat) => gD x.c.ns i)) ≠ 0) /\ bif AK (Cht.mk x.c.p x.c.base x.c.scale x.c.off (AE x.c.ms.length λ (i : Nat) => gD x.c.ms i) (AE x.c.ns.length λ (i : Nat) => gD x.c.ns i)) != 0 then false =
 false /\ AK x.c = AK (Cht.mk x.c.p x.c.base x.c.scale x.c.off (AE x.c.ms.length λ (i : Nat) => gD x.c.ms i) (AE x.c.ns.length λ (i : Nat) => gD x.c.ns i)) else bif decide ((↑x.l.length : Int) > 40) then
 false = false /\ AK x.c = 3 else False) := by kernel_rfl
theorem CPG {c : Cht} {p : Pr} (hn : c.ns.length < 1073741824) (h : IH c p = true) : ((0 <= p.a /\ p.a < c.ns.length) /\ 0 <= p.b /\ p.b < c.ns.length) /\ (nA c p).mi < (nB c p).mi := by
 unfold IH at h
 cases hq : ALO c.ns.length p with
 | false => rw [hq] at h; cases h
 | true =>
  rw [hq] at h
  have h : (bif (!(p.a == p.b && p.b == p.a)) then decide ((nA c p).mi < (nB c p).mi) else false) = true := h
  unfold ALO wr HK at hq
  rw [FC (by omega) (by omega)] at hq
  simp only [Bool.and_eq_true, decide_eq_true_eq] at hq
  refine ⟨⟨by omega, by omega⟩, ?_⟩
  cases hb : (!(p.a == p.b && p.b == p.a)) with
  | false => rw [hb] at h; cases h
  | true => rw [hb] at h; exact of_decide_eq_true h
theorem BWY {x : Prv} : ∀ {m k : Nat}, k <= m -> pvK x m = true -> pvK x k = true
 | 0, k, h, hm => by
  obtain rfl : k = 0 := by omega
  rfl
 | m + 1, k, h, hm => by
  by_cases hk : k = m + 1
  ·subst hk; exact hm
  ·have h2 : (pvK x m && PO x.c (gD x.l m) && !hitJ (mtF x m) (UW x m).toNat (pvB x m - UW x m).toNat) = true := hm
   rw [Bool.and_eq_true, Bool.and_eq_true] at h2
   exact BWY (by omega) h2.1.1
theorem COG {f : Nat -> Bool} {a : Nat} : ∀ {m k : Nat}, k <= m -> hitJ f a k = true -> hitJ f a m = true
 | 0, k, h, hm => by
  obtain rfl : k = 0 := by omega
  exact hm
 | m + 1, k, h, hm => by
  by_cases hk : k = m + 1
  ·subst hk; exact hm
  ·show (hitJ f a m || f (a + m)) = true
   rw [COG (show k <= m by omega) hm]; rfl
theorem CEP {x : Prv} (h1 : ¬(x.l.length : Int) > 40) (h2 : (x.l.all λ p => IH x.c p) = true) {k : Nat} (hk : k < x.l.length) (h3 : pvK x (k + 1) = false) : (LQ x).1 = false /\ (LQ x).2 = 0 := by
 have h : pvK x x.l.length = false := by
  cases hq : pvK x x.l.length with
  | false => rfl
  | true => rw [BWY (show k + 1 <= x.l.length from hk) hq] at h3; cases h3
 unfold LQ; rw [decide_eq_false h1, h2, h]; exact ⟨rfl, rfl⟩
theorem CVM (x : Prv) (h1 : x.c.ms.length < 4611686018427387904 /\ x.c.ns.length < 4611686018427387904 /\ x.l.length < 4611686018427387904) (h0 : AK x.c = 0) : CJJ x := by
 have hl := ET h0
 have hs := dL h0
 have hM := CUS hs.1
 rw [CPA]; delta Cc YT vD L2 AYE M1 vS vY BIW AXW ABJ bE eL AFM AHW LY aP aR ALJ aM U0 Bj V1 By R3 YY AAU R0 RI Zj cB Yh AAW AHY eS O6 cM Bc RG ZP QZ YM dT AKJ dC ADA AEV AKR aO ABX aT O9 AGV AIS Zg W7 dQ IP AKM cR aV T1 cV AKQ Zo Xe AKN Y4 ABW aQ AGM cH ACR AHM AGO cA ABI Za IS ADH ADP IR ZJ Ca Cl Ct Ae Af cQ QP QO dD RQ S5 RF QS Y6 RC QU ZU Hm oZ MP MM MG NN MJ Ek NE nK mT kB MD JK kH Ee SQ mR qW nX gQ kO mW iL LV Hn lG rZ jS oX oV jL rB nY jN oT GM Ho Ir Eh Gq Hk Gm Er Fs Hi oU pA; simp only [CC, eq_self, implies_true, forall_const, CB, AKH, YF, BYC, AZY, CSW]
 refine ⟨⟨⟨h1.1, h1.2.1⟩, h0⟩, λ hc => ?_, λ hc => ⟨⟨h1.2.2, by omega⟩, λ ha => ?_, λ ha => ⟨rfl, ⟨0, ⟨rfl, λ _ _ => rfl⟩, Nat.zero_le _, rfl⟩, ?_⟩⟩⟩
 ·unfold LQ; rw [decide_eq_true hc]; exact ⟨rfl, rfl⟩
 ·unfold LQ; rw [decide_eq_false hc, ha]; exact ⟨rfl, rfl⟩
 ·rintro k ⟨hk, hp⟩
  have hP : ∀ k, k < x.l.length -> _ := λ k hk => CPG (by omega) (List.all_eq_true.1 ha _ (LZ hk))
  have mA : ∀ k, k < x.l.length -> 0 <= UW x k /\ UW x k < x.c.ms.length := λ k hk => hM _ (by have := (hP k hk).1; omega)
  have mB : ∀ k, k < x.l.length -> 0 <= pvB x k /\ pvB x k < x.c.ms.length := λ k hk => hM _ (by have := (hP k hk).1; omega)
  have mL : ∀ k, k < x.l.length -> UW x k < pvB x k := λ k hk => (hP k hk).2
  have eB : ∀ k, (gD x.c.ns (gD x.l k).b.toNat).mi = pvB x k := λ _ => rfl
  have eA : ∀ k, (gD x.c.ns (gD x.l k).a.toNat).mi = UW x k := λ _ => rfl
  refine ⟨λ hlt => ⟨⟨by omega, by omega⟩, ⟨(hP k (by omega)).1, ⟨hl.2.1.2, hl.2.2⟩, hM⟩, λ hL => ?_, λ hL => ⟨(hP k (by omega)).1.1, ⟨⟨k, 0⟩, ⟨by rw [eA]; show UW x k + ((0 : Nat) : Int) = _; omega, rfl, λ i hi => ?_, rfl, rfl⟩, ⟨by show k < _; omega, rfl⟩, ⟨hp, hL⟩, by have := mL k (by omega); show UW x k + ((0 : Nat) : Int) <= pvB x k; omega, rfl⟩, ?_⟩⟩, λ hge => ?_⟩
  ·refine CEP hc ha (k := k) (by omega) ?_
   show (pvK x k && PO x.c (gD x.l k) && _) = false
   rw [hL]; simp
  ·show (mtF x k i || (decide (UW x k <= i) && decide ((i : Int) < UW x k + ((0 : Nat) : Int)))) = mtF x k i
   rw [show (decide (UW x k <= i) && decide ((i : Int) < UW x k + ((0 : Nat) : Int))) = false by simp, Bool.or_false]
  ·rintro ⟨i, j⟩ ⟨⟨y1, y2⟩, ⟨y3, y4⟩, y5, y6⟩
   dsimp only at y1 y2 y3 y4 y5 y6 ⊢
   simp only [eB]
   have a1 := mA i y1
   have b1 := mB i y1
   have l1 := mL i y1
   have e : (UW x i + (j : Int)).toNat = (UW x i).toNat + j := by omega
   have eG : mtG x i j ((UW x i).toNat + j) = mtF x i ((UW x i).toNat + j) := by
    show (mtF x i _ || (decide (UW x i <= _) && decide (_ < UW x i + (j : Int)))) = _
    rw [decide_eq_false (show ¬(((UW x i).toNat + j : Nat) : Int) < UW x i + (j : Int) by omega), Bool.and_false, Bool.or_false]
   refine ⟨(hP i y1).1.2, λ hb => ⟨⟨⟨by omega, by omega⟩, by omega⟩, λ hm => ?_, λ hm => ⟨⟨⟨by omega, by omega⟩, by omega⟩, ⟨i, j + 1⟩, ⟨?_, rfl, λ t ht => ?_, rfl, rfl⟩, ⟨⟨y1, y2⟩, ⟨y3, y4⟩, by show UW x i + ((j + 1 : Nat) : Int) <= pvB x i; omega, ?_⟩, by show 50 - (j + 1) < _; omega⟩⟩, λ hb => ⟨i + 1, ⟨by rw [FC (by omega) (by omega)]; rfl, λ t ht => ?_⟩, ⟨by omega, ?_⟩, by omega⟩⟩
   ·rw [e, eG] at hm
    refine CEP hc ha (k := i) y1 ?_
    have h9 : hitJ (mtF x i) (UW x i).toNat (j + 1) = true := by
     show (hitJ _ _ _ || _) = true
     rw [hm, Bool.or_true]
    show (pvK x i && PO x.c (gD x.l i) && !hitJ _ _ _) = false
    rw [COG (show j + 1 <= (pvB x i - UW x i).toNat by omega) h9]; simp
   ·show UW x i + ((j + 1 : Nat) : Int) = _
    rw [FC (by omega) (by omega)]; omega
   ·show (mtF x i t || (decide (UW x i <= t) && decide ((t : Int) < UW x i + ((j + 1 : Nat) : Int)))) = bif _ then true else (mtF x i t || (decide (UW x i <= t) && decide ((t : Int) < UW x i + (j : Int))))
    rw [e]
    by_cases h7 : t = (UW x i).toNat + j
    ·rw [decide_eq_true h7, decide_eq_true (show UW x i <= t by omega), decide_eq_true (show (t : Int) < UW x i + ((j + 1 : Nat) : Int) by omega)]; simp
    ·rw [decide_eq_false h7]
     show _ = (mtF x i t || _)
     congr 2
     exact decide_eq_decide.2 (by omega)
   ·rw [e, eG] at hm
    show (hitJ _ _ _ || _) = false
    rw [y6, hm]; rfl
   ·have e3 : UW x i + (j : Int) = pvB x i := by omega
    show (mtF x i t || _) = (mtF x i t || (decide (UW x i <= t) && decide ((t : Int) < UW x i + (j : Int))))
    rw [e3]
   ·have e3 : (pvB x i - UW x i).toNat = j := by omega
    show (pvK x i && PO x.c (gD x.l i) && !hitJ _ _ _) = true
    rw [e3, y3, y4, y6]; rfl
  ·have e : k = x.l.length := by omega
   subst e
   unfold LQ; rw [decide_eq_false hc, ha, hp]; exact ⟨by simp, rfl⟩
theorem CRL : AM Try.prog ASZ (C_prov.spec dPrv) := okT C_prov (λ (x : Prv) h => by
 have h1 : x.c.ms.length < 4611686018427387904 /\ x.c.ns.length < 4611686018427387904 /\ x.l.length < 4611686018427387904 := h
 by_cases h0 : AK x.c = 0
 ·have e : C_prov.val x = .tup [.bool (LQ x).1, .int (LQ x).2] := by
   show AVal.tup [.bool (AMF x).1, .int (AMF x).2] = _
   unfold AMF; rw [h0]; rfl
  rw [e]
  exact UV (A := CIF x) (L := []) (keep := []) (ren := []) (fz := []) BKH (by kernel_rfl) (AC xA (AC DAQ (AC CEN AJ))) (CVM x h1 h0)
 ·have h0' : (AK x.c == 0) = false := by simpa using h0
  have e : C_prov.val x = .tup [.bool false, .int (AK x.c)] := by
   show AVal.tup [.bool (AMF x).1, .int (AMF x).2] = _
   unfold AMF; rw [h0']; rfl
  rw [e]
  refine UV (A := CFV) (L := []) (keep := []) (ren := []) (fz := []) BKH (by kernel_rfl) (AC yD AJ) ?_
  show CCZ x; rw [CLM]; simp only [CC, eq_self, implies_true, forall_const, CB]
  simp [h1, h0]) _
end Go.Bal
