/- Package chart: Late, Proves. -/
import Derived.Test.YtdbjalgfomknhaaChK
set_option linter.unusedVariables false
set_option linter.unusedSimpArgs false
namespace Go.Bal
open Go Go.Sym Go.Proofs
structure Prv where
 c : Cht
 m : Int
 l : List Pr
def dPrv : List AVal -> Heap -> Option (Prv × List (Nat × Nat) × List Nat)
 | [x, .d m, y], H => match AIZ x H, wA y H with
  | some (c, f), some (n, g, e) => some (⟨c, FQ m, OF n λ i => dPr (g i)⟩, [], f ++ e)
  | _, _ => none
 | _, _ => none
def xPrv (x : Prv) : List AVal := [.d (aK x.c), .int x.m, .d (Zo x.l)]
def Tm (x : Prv) (k : Nat) : Int := (nA x.c (gD x.l k)).mi
def pvB (x : Prv) (k : Nat) : Int := (nB x.c (gD x.l k)).mi
def mtF (x : Prv) : Nat -> Nat -> Bool
 | 0, _ => false
 | k + 1, i => mtF x k i || (decide (Tm x k <= i) && decide ((i : Int) < pvB x k))
def hitJ (f : Nat -> Bool) (a : Nat) : Nat -> Bool
 | 0 => false
 | j + 1 => hitJ f a j || f (a + j)
def pvK (x : Prv) : Nat -> Bool
 | 0 => true
 | k + 1 => pvK x k && Lf x.c (gD x.l k) && !hitJ (mtF x k) (Tm x k).toNat (pvB x k - Tm x k).toNat
def Hq (x : Prv) : Bool × Int := bif decide ((x.l.length : Int) > 40) then (false, 3) else bif !(x.l.all λ p => Sw x.c p) then (false, 2) else (pvK x x.l.length && decide ((x.l.length : Int) >= x.m), 0)
def ACN (x : Prv) : Bool × Int := bif BS x.c == 0 then Hq x else (false, BS x.c)
def C_prov : Ctr := { α := Prv, xs := xPrv, val := λ x => .tup [.bool (ACN x).1, .int (ACN x).2], keep := λ _ => [], pre := λ x => [x.c.ms.length < 4611686018427387904 /\ x.c.ns.length < 4611686018427387904 /\ x.l.length < 4611686018427387904] }
def pvS (x : Prv) (k : Nat) : List (Nat × AVal) := [(1, .int x.m), (2, .d (Zo x.l)), (3, .bptr 201 0), (8, .bptr 203 0), (10, .rptr 205 1 0 0), (33, .d (Zo x.l)), (34, .int x.l.length), (35, .int k)]
def pvH (x : Prv) (f : Nat -> Bool) : List (Nat × HCell) := [(201, .live (chB x.c)), (203, .live (dkB (AY x.c) 204)), (204, .live (dkM (AY x.c))), (205, .live (.row 1 40 λ i => .v (.bool (f i))))]
def pv10 (x : Prv) : Shape := { α := Nat, dflt := 0, T := λ k => ⟨pvS x k, pvH x (mtF x k)⟩, inv := λ k => k <= x.l.length /\ pvK x k = true, meas := λ k => x.l.length - k, first := [(201, 1000), (203, 2016), (204, 2017), (205, 9000)] }
def mtG (x : Prv) (k j : Nat) : Nat -> Bool := λ i => mtF x k i || (decide (Tm x k <= i) && decide ((i : Int) < Tm x k + j))
def pv15 (x : Prv) (m : Nat) : Shape := { α := IJ, dflt := default, T := λ s => ⟨[(12, .bptr 206 0), (13, .int (Tm x s.i + s.j))] ++ pvS x s.i, pvH x (mtG x s.i s.j) ++ [(206, .live (.box [.int (gD x.l s.i).a, .int (gD x.l s.i).b]))]⟩, inv := λ s => (s.i < x.l.length /\ x.l.length - s.i = m) /\ (pvK x s.i = true /\ Lf x.c (gD x.l s.i) = true) /\ (Tm x s.i + s.j <= pvB x s.i /\ hitJ (mtF x s.i) (Tm x s.i).toNat s.j = false), meas := λ s => 50 - s.j, first := [(206, 12032)] }
def BIE (x : Prv) : Ann := { ann 71 [(VS, C_open.spec dC1), (n_eP, C4Pp.spec d4Pp), (AOH, C_late.spec dDkP)] with loops := λ id => if id = 10 then some [pv10 x] else none, inner := λ gs id => if id = 15 then some [pv15 x (gs.getD 0 0)] else none }
def BBZ (x : Prv) : Prop := CR Try.prog (BIE x) qZ (AL qZ) (xPrv x) (AE []) (.tup [.bool (Hq x).1, .int (Hq x).2]) [] [] []
abbrev Zy (x : Prv) : Prop := x.c.p.lo = x.c.p.lo
abbrev bH (x : Prv) : Prop := x.c.p.hi = x.c.p.hi
abbrev I7 (x : Prv) : List Mk := OF x.c.ms.length λ (i : Nat) => gD x.c.ms i
abbrev L3 (x : Prv) : Nat := (I7 x).length
abbrev AGW (x : Prv) (i : Nat) : Mk := gD (I7 x) i
abbrev F9 (x : Prv) : List Nt := OF x.c.ns.length λ (i : Nat) => gD x.c.ns i
abbrev G4 (x : Prv) : Nat := (F9 x).length
abbrev M4 (x : Prv) (i : Nat) : Nt := gD (F9 x) i
abbrev AHK (x : Prv) (i : Nat) : Span := (M4 x i).t
abbrev AFB (x : Prv) (i : Nat) : Span := (M4 x i).s
abbrev N6 (x : Prv) : Cht := Cht.mk x.c.p x.c.base x.c.scale x.c.off (I7 x) (F9 x)
abbrev uV (x : Prv) : List Pr := OF x.l.length λ (i : Nat) => gD x.l i
abbrev uF (x : Prv) : Nat := (uV x).length
abbrev AAF (x : Prv) (i : Nat) : Pr := gD (uV x) i
abbrev X5 (x : Prv) : Dk := AY (N6 x)
abbrev Iw (x : Prv) : Cht := (X5 x).c
abbrev tB (x : Prv) : Span := (Iw x).p
abbrev vN (x : Prv) : Int := (tB x).lo
abbrev AAH (x : Prv) : Prop := vN x = vN x
abbrev uD (x : Prv) : Int := (tB x).hi
abbrev AAZ (x : Prv) : Prop := uD x = uD x
abbrev bG (x : Prv) : Int := (Iw x).base
abbrev T2 (x : Prv) : Prop := bG x = bG x
abbrev bK (x : Prv) : Int := (Iw x).scale
abbrev N9 (x : Prv) : Prop := bK x = bK x
abbrev aF (x : Prv) : Int := (Iw x).off
abbrev Y4 (x : Prv) : Prop := aF x = aF x
abbrev ABF (x : Prv) : List Mk := (Iw x).ms
abbrev Ql (x : Prv) : Nat := (ABF x).length
abbrev uM (x : Prv) (i : Nat) : Mk := gD (ABF x) i
abbrev tX (x : Prv) : List Mk := OF (Ql x) λ (i : Nat) => uM x i
abbrev tJ (x : Prv) : Nat := (tX x).length
abbrev V6 (x : Prv) (i : Nat) : Mk := gD (tX x) i
abbrev S5 (x : Prv) (i : Nat) : Int := (V6 x i).pl
abbrev uI (x : Prv) (i : Nat) : Int := (uM x i).pl
abbrev O3 (x : Prv) (i : Nat) : Int := (V6 x i).ht
abbrev uL (x : Prv) (i : Nat) : Int := (uM x i).ht
abbrev Zk (x : Prv) : List Nt := (Iw x).ns
abbrev Qk (x : Prv) : Nat := (Zk x).length
abbrev aP (x : Prv) (i : Nat) : Nt := gD (Zk x) i
abbrev Qe (x : Prv) : List Nt := OF (Qk x) λ (i : Nat) => aP x i
abbrev Zr (x : Prv) : Nat := (Qe x).length
abbrev tP (x : Prv) (i : Nat) : Nt := gD (Qe x) i
abbrev X3 (x : Prv) (i : Nat) : Int := (tP x i).mi
abbrev uE (x : Prv) (i : Nat) : Int := (aP x i).mi
abbrev AAR (x : Prv) (i : Nat) : Span := (tP x i).t
abbrev O9 (x : Prv) (i : Nat) : Int := (AAR x i).lo
abbrev AAP (x : Prv) (i : Nat) : Span := (aP x i).t
abbrev uK (x : Prv) (i : Nat) : Int := (AAP x i).lo
abbrev V1 (x : Prv) (i : Nat) : Int := (AAR x i).hi
abbrev vI (x : Prv) (i : Nat) : Int := (AAP x i).hi
abbrev Z8 (x : Prv) (i : Nat) : Span := (tP x i).s
abbrev Z2 (x : Prv) (i : Nat) : Int := (Z8 x i).lo
abbrev ABE (x : Prv) (i : Nat) : Span := (aP x i).s
abbrev vC (x : Prv) (i : Nat) : Int := (ABE x i).lo
abbrev P4 (x : Prv) (i : Nat) : Int := (Z8 x i).hi
abbrev tR (x : Prv) (i : Nat) : Int := (ABE x i).hi
abbrev ZF : Prop := ∀ (i : Nat), i < 40 -> false = false
abbrev O5 (x : Prv) (n : Int) : Bool := hasN (Qe x) n
abbrev vO (x : Prv) (n : Int) : Bool := hasN (Zk x) n
abbrev uT (x : Prv) (n : Int) : Int := (X5 x).st n
abbrev Q8 (x : Prv) : Prop := ∀ (n : Int), uT x n = uT x n
abbrev tY (x : Prv) (n : Int) : Nt := ntOf (Qe x) n
abbrev R8 (x : Prv) (n : Int) : Int := (tY x n).mi
abbrev tO (x : Prv) (n : Int) : Nt := ntOf (Zk x) n
abbrev tE (x : Prv) (n : Int) : Int := (tO x n).mi
abbrev U8 (x : Prv) (n : Int) : Span := (tY x n).t
abbrev Z0 (x : Prv) (n : Int) : Int := (U8 x n).lo
abbrev T6 (x : Prv) (n : Int) : Span := (tO x n).t
abbrev uU (x : Prv) (n : Int) : Int := (T6 x n).lo
abbrev R3 (x : Prv) (n : Int) : Int := (U8 x n).hi
abbrev tI (x : Prv) (n : Int) : Int := (T6 x n).hi
abbrev Z3 (x : Prv) (n : Int) : Span := (tY x n).s
abbrev U7 (x : Prv) (n : Int) : Int := (Z3 x n).lo
abbrev X1 (x : Prv) (n : Int) : Span := (tO x n).s
abbrev uR (x : Prv) (n : Int) : Int := (X1 x n).lo
abbrev V9 (x : Prv) (n : Int) : Int := (Z3 x n).hi
abbrev tT (x : Prv) (n : Int) : Int := (X1 x n).hi
abbrev ZG (x : Prv) : Prop := x.l.length = x.l.length
abbrev P8 (x : Prv) (i : Nat) : Prop := (gD x.l i).a = (gD x.l i).a
abbrev Y7 (x : Prv) (i : Nat) : Prop := (gD x.l i).b = (gD x.l i).b
abbrev ZI (x : Prv) : Prop := ∀ (i : Nat), i < x.l.length -> P8 x i /\ Y7 x i
abbrev aE : Prop := 0 = 0
abbrev aW (x : Prv) : Prop := (↑x.l.length : Int) = (↑x.l.length : Int)
abbrev aG (x : Prv) : Prop := x.c.ms.length = x.c.ms.length
abbrev aX (x : Prv) : Prop := ∀ (i : Nat), i < x.c.ms.length -> (gD x.c.ms i).pl = (gD x.c.ms i).pl /\ (gD x.c.ms i).ht = (gD x.c.ms i).ht
abbrev Zv (x : Prv) : Prop := x.c.ns.length = x.c.ns.length
abbrev Zz (x : Prv) : Prop := ∀ (i : Nat), i < x.c.ns.length -> (gD x.c.ns i).mi = (gD x.c.ns i).mi /\ (gD x.c.ns i).t.lo = (gD x.c.ns i).t.lo /\ (gD x.c.ns i).t.hi = (gD x.c.ns i).t.hi /\ (gD x.c.ns i).s.lo = (gD
 x.c.ns i).s.lo /\ (gD x.c.ns i).s.hi = (gD x.c.ns i).s.hi
abbrev vG (i : Nat) (x : Prv) : Prop := i < (AY x.c).c.ms.length
abbrev Qh (x : Prv) (i : Nat) : Int := (gD (AY x.c).c.ms i).pl
abbrev Qg (x : Prv) (i : Nat) : Int := (gD (AY x.c).c.ms i).ht
abbrev tG (i : Nat) (x : Prv) : Prop := i < (AY x.c).c.ns.length
abbrev Qb (x : Prv) (i : Nat) : Int := (gD (AY x.c).c.ns i).mi
abbrev W8 (x : Prv) (i : Nat) : Span := (gD (AY x.c).c.ns i).t
abbrev Qm (x : Prv) (i : Nat) : Int := (W8 x i).lo
abbrev Qi (x : Prv) (i : Nat) : Int := (W8 x i).hi
abbrev Y8 (x : Prv) (i : Nat) : Span := (gD (AY x.c).c.ns i).s
abbrev Qa (x : Prv) (i : Nat) : Int := (Y8 x i).lo
abbrev Qp (x : Prv) (i : Nat) : Int := (Y8 x i).hi
abbrev Zx : Prop := 40 = 40
abbrev cN (a : Nat) (x : Prv) : Prop := a <= x.l.length /\ pvK x a = true
abbrev zX (a : Nat) (x : Prv) : Prop := (↑a : Int) < (↑x.l.length : Int)
abbrev Jr (x : Prv) : Prop := (AY x.c).c.p.lo = (AY x.c).c.p.lo
abbrev Kw (x : Prv) : Prop := (AY x.c).c.p.hi = (AY x.c).c.p.hi
abbrev Ib (x : Prv) : Prop := (AY x.c).c.base = (AY x.c).c.base
abbrev Im (x : Prv) : Prop := (AY x.c).c.scale = (AY x.c).c.scale
abbrev Jv (x : Prv) : Prop := (AY x.c).c.off = (AY x.c).c.off
abbrev cQ (x : Prv) : List Mk := OF (AY x.c).c.ms.length λ (i : Nat) => gD (AY x.c).c.ms i
abbrev Jm (x : Prv) : Nat := (cQ x).length
abbrev yX (x : Prv) (i : Nat) : Mk := gD (cQ x) i
abbrev yW (x : Prv) (i : Nat) : Int := (yX x i).pl
abbrev A4 (x : Prv) (i : Nat) : Int := (yX x i).ht
abbrev Ie (x : Prv) : List Nt := OF (AY x.c).c.ns.length λ (i : Nat) => gD (AY x.c).c.ns i
abbrev Cc (x : Prv) : Nat := (Ie x).length
abbrev A3 (i : Nat) (x : Prv) : Prop := i < Cc x
abbrev dG (x : Prv) (i : Nat) : Nt := gD (Ie x) i
abbrev Sk (x : Prv) (i : Nat) : Int := (dG x i).mi
abbrev zB (x : Prv) (i : Nat) : Span := (dG x i).t
abbrev zJ (x : Prv) (i : Nat) : Int := (zB x i).lo
abbrev xV (x : Prv) (i : Nat) : Int := (zB x i).hi
abbrev yP (x : Prv) (i : Nat) : Span := (dG x i).s
abbrev xY (x : Prv) (i : Nat) : Int := (yP x i).lo
abbrev C3 (x : Prv) (i : Nat) : Int := (yP x i).hi
abbrev yS (x : Prv) (n : Int) : Bool := hasN (Ie x) n
abbrev Kh (x : Prv) : Prop := ∀ (n : Int), (AY x.c).st n = (AY x.c).st n
abbrev fQ (x : Prv) (n : Int) : Nt := ntOf (Ie x) n
abbrev zY (x : Prv) (n : Int) : Int := (fQ x n).mi
abbrev zD (x : Prv) (n : Int) : Span := (fQ x n).t
abbrev yB (x : Prv) (n : Int) : Int := (zD x n).lo
abbrev zC (x : Prv) (n : Int) : Int := (zD x n).hi
abbrev yU (x : Prv) (n : Int) : Span := (fQ x n).s
abbrev yF (x : Prv) (n : Int) : Int := (yU x n).lo
abbrev E4 (x : Prv) (n : Int) : Int := (yU x n).hi
abbrev A5 (x : Prv) (a : Nat) : Prop := 0 <= (gD x.l a).a
abbrev yQ (x : Prv) : Prop := (Hq x).snd = 0
abbrev zQ (x : Prv) : Prop := (Hq x).fst = false /\ yQ x
abbrev VB (x : Prv) (a : IJ) : Int := Tm x a.i + (↑a.j : Int)
abbrev cA (x : Prv) : Prop := (AY x.c).c.ms.length = (AY x.c).c.ms.length
abbrev fX (x : Prv) : Prop := ∀ (i : Nat), vG i x -> Qh x i = Qh x i /\ Qg x i = Qg x i
abbrev fT (x : Prv) : Prop := (AY x.c).c.ns.length = (AY x.c).c.ns.length
abbrev dL (x : Prv) : Prop := ∀ (i : Nat), tG i x -> Qb x i = Qb x i /\ Qm x i = Qm x i /\ Qi x i = Qi x i /\ Qa x i = Qa x i /\ Qp x i = Qp
 x i
abbrev dP (x : Prv) : Prop := ∀ (n : Int), hasN (AY x.c).c.ns n = hasN (AY x.c).c.ns n
abbrev cX (x : Prv) : Prop := ∀ (n : Int), (ntOf (AY x.c).c.ns n).mi = (ntOf (AY x.c).c.ns n).mi /\ (ntOf (AY x.c).c.ns n).t.lo = (ntOf (AY x.c).c.ns n).t.lo /\ (ntOf (AY x.c).c.ns n).t.hi = (ntOf (AY
 x.c).c.ns n).t.hi /\ (ntOf (AY x.c).c.ns n).s.lo = (ntOf (AY x.c).c.ns n).s.lo /\ (ntOf (AY x.c).c.ns n).s.hi = (ntOf (AY x.c).c.ns n).s.hi
abbrev cK (x : Prv) (a : Nat) : Nat := x.l.length - a
abbrev fP (a : IJ) (x : Prv) (a1 : Nat) : Prop := (a.i < x.l.length /\ x.l.length - a.i = cK x a1) /\ (pvK x a.i = true /\ Lf x.c (gD x.l a.i) = true) /\ VB x a <= pvB x a.i /\ hitJ (mtF x a.i) (Tm
 x a.i).toNat a.j = false
abbrev eU (x : Prv) (a : IJ) : Nat := (VB x a).toNat
abbrev D1 (x : Prv) (a : IJ) : Prop := (0 <= VB x a /\ VB x a < (↑40 : Int)) /\ (eU x a).succ.le 40
abbrev xJ (a : IJ) : Nat := 50 - a.j
theorem BJR (x : Prv) : (BBZ x) = ((Zy x /\ bH x /\ x.c.base = x.c.base /\ x.c.scale = x.c.scale /\ x.c.off = x.c.off /\ L3 x = x.c.ms.length /\ (∀ (i : Nat), i < L3 x -> (AGW x i).pl = (gD
 x.c.ms i).pl /\ (AGW x i).ht = (gD x.c.ms i).ht) /\ G4 x = x.c.ns.length /\ (∀ (i : Nat), i < G4 x -> (M4 x i).mi = (gD x.c.ns i).mi /\ (AHK x i).lo = (gD x.c.ns i).t.lo /\ (AHK x i).hi = (gD
 x.c.ns i).t.hi /\ (AFB x i).lo = (gD x.c.ns i).s.lo /\ (AFB x i).hi = (gD x.c.ns i).s.hi) /\ (L3 x < 4611686018427387904 /\ G4 x < 4611686018427387904) /\ BS (N6 x) = 0) /\ bif decide
 ((↑x.l.length : Int) > 40) then (Hq x).fst = false /\ (Hq x).snd = 3 else (uF x = x.l.length /\ (∀ (i : Nat), i < uF x -> (AAF x i).a = (gD x.l i).a /\ (AAF x i).b = (gD x.l i).b) /\ AAH
 x /\ AAZ x /\ T2 x /\ N9 x /\ Y4 x /\ tJ x = Ql x /\ (∀ (i : Nat), i < tJ x -> S5 x i = uI x i /\ O3 x i = uL x i) /\ Zr x = Qk x /\ (∀ (i :
 Nat), i < Zr x -> X3 x i = uE x i /\ O9 x i = uK x i /\ V1 x i = vI x i /\ Z2 x i = vC x i /\ P4 x i = tR x i) /\ ZF /\ sN = sN /\ (∀ (n :
 Int), O5 x n = vO x n) /\ Q8 x /\ (∀ (n : Int), R8 x n = tE x n /\ Z0 x n = uU x n /\ R3 x n = tI x n /\ U7 x n = uR x n /\ V9 x n = tT
 x n) /\ AAH x /\ AAZ x /\ T2 x /\ N9 x /\ Y4 x /\ Ql x = tJ x /\ (∀ (i : Nat), i < Ql x -> uI x i = S5 x i /\ uL x i = O3 x i) /\ Qk x =
 Zr x /\ (∀ (i : Nat), i < Qk x -> uE x i = X3 x i /\ uK x i = O9 x i /\ vI x i = V1 x i /\ vC x i = Z2 x i /\ tR x i = P4 x i) /\ ZF /\
 sN = sN /\ (∀ (n : Int), vO x n = O5 x n) /\ Q8 x /\ (∀ (n : Int), tE x n = R8 x n /\ uU x n = Z0 x n /\ tI x n = R3 x n /\ uR x n = U7 x n /\
 tT x n = V9 x n) /\ uF x < 4611686018427387904 /\ Zr x < 1073741824) /\ bif !(uV x).all λ (x_1 : Pr) => Sw (Cht.mk (tB x) (bG x) (bK x) (aF x) (tX
 x) (Qe x)) x_1 then (Hq x).fst = false /\ (Hq x).snd = 2 else (Value.agg #[Value.bool false, Value.bool false, Value.bool false, Value.bool false, Value.bool false, Value.bool false, Value.bool false,
 Value.bool false, Value.bool false, Value.bool false, Value.bool false, Value.bool false, Value.bool false, Value.bool false, Value.bool false, Value.bool false, Value.bool false, Value.bool false, Value.bool false,
 Value.bool false, Value.bool false, Value.bool false, Value.bool false, Value.bool false, Value.bool false, Value.bool false, Value.bool false, Value.bool false, Value.bool false, Value.bool false, Value.bool false,
 Value.bool false, Value.bool false, Value.bool false, Value.bool false, Value.bool false, Value.bool false, Value.bool false, Value.bool false, Value.bool false]).cells.toList = (List.replicate 40 (Value.bool
 false).cells.toList).flatten /\ (∃ (a : Nat), (x.m = x.m /\ ZG x /\ ZI x /\ aE /\ ZG x /\ ZI x /\ aW x /\ (↑a : Int) = 0 /\ Zy x /\ bH x /\ x.c.base = x.c.base /\ x.c.scale =
 x.c.scale /\ x.c.off = x.c.off /\ aG x /\ aX x /\ Zv x /\ Zz x /\ (AY x.c).c.p.lo = vN x /\ (AY x.c).c.p.hi = uD x /\ (AY x.c).c.base = bG x /\ (AY x.c).c.scale = bK
 x /\ (AY x.c).c.off = aF x /\ (AY x.c).c.ms.length = Ql x /\ (∀ (i : Nat), vG i x -> Qh x i = uI x i /\ Qg x i = uL x i) /\ (AY x.c).c.ns.length = Qk x /\ (∀ (i :
 Nat), tG i x -> Qb x i = uE x i /\ Qm x i = uK x i /\ Qi x i = vI x i /\ Qa x i = vC x i /\ Qp x i = tR x i) /\ ZF /\ sN = sN /\ (∀ (n : Int),
 hasN (AY x.c).c.ns n = vO x n) /\ (∀ (n : Int), (AY x.c).st n = uT x n) /\ (∀ (n : Int), (ntOf (AY x.c).c.ns n).mi = tE x n /\ (ntOf (AY x.c).c.ns n).t.lo = uU x n /\ (ntOf (AY x.c).c.ns
 n).t.hi = tI x n /\ (ntOf (AY x.c).c.ns n).s.lo = uR x n /\ (ntOf (AY x.c).c.ns n).s.hi = tT x n) /\ Zx /\ ∀ (i : Nat), i < 40 -> mtF x a i = false) /\ cN a x) /\ ∀ (a : Nat), cN
 a x -> bif decide (zX a x) then (0 <= (↑a : Int) /\ zX a x) /\ (P8 x a /\ Y7 x a /\ Jr x /\ Kw x /\ Ib x /\ Im x /\ Jv x /\ Jm x = (AY x.c).c.ms.length
 /\ (∀ (i : Nat), i < Jm x -> yW x i = Qh x i /\ A4 x i = Qg x i) /\ Cc x = (AY x.c).c.ns.length /\ (∀ (i : Nat), A3 i x -> Sk x i = Qb x i /\ zJ x i
 = Qm x i /\ xV x i = Qi x i /\ xY x i = Qa x i /\ C3 x i = Qp x i) /\ ZF /\ sN = sN /\ (∀ (n : Int), yS x n = hasN (AY x.c).c.ns n) /\ Kh x /\ (∀ (n
 : Int), zY x n = (ntOf (AY x.c).c.ns n).mi /\ yB x n = (ntOf (AY x.c).c.ns n).t.lo /\ zC x n = (ntOf (AY x.c).c.ns n).t.hi /\ yF x n = (ntOf (AY x.c).c.ns n).s.lo /\ E4 x n =
 (ntOf (AY x.c).c.ns n).s.hi) /\ Jr x /\ Kw x /\ Ib x /\ Im x /\ Jv x /\ (AY x.c).c.ms.length = Jm x /\ (∀ (i : Nat), vG i x -> Qh x i = yW x i /\ Qg
 x i = A4 x i) /\ (AY x.c).c.ns.length = Cc x /\ (∀ (i : Nat), tG i x -> Qb x i = Sk x i /\ Qm x i = zJ x i /\ Qi x i = xV x i /\ Qa x i = xY
 x i /\ Qp x i = C3 x i) /\ ZF /\ sN = sN /\ (∀ (n : Int), hasN (AY x.c).c.ns n = yS x n) /\ Kh x /\ (∀ (n : Int), (ntOf (AY x.c).c.ns n).mi = zY x n /\ (ntOf (AY x.c).c.ns
 n).t.lo = yB x n /\ (ntOf (AY x.c).c.ns n).t.hi = zC x n /\ (ntOf (AY x.c).c.ns n).s.lo = yF x n /\ (ntOf (AY x.c).c.ns n).s.hi = E4 x n) /\ ((A5 x a /\ (gD x.l a).a <
 (↑(Cc x) : Int)) /\ 0 <= (gD x.l a).b /\ (gD x.l a).b < (↑(Cc x) : Int)) /\ (Jm x <= 40 /\ Cc x <= 20) /\ ∀ (i : Nat), A3 i x -> 0 <= Sk x i /\ Sk x i < (↑(Jm x) :
 Int)) /\ bif !Lf (Cht.mk (AY x.c).c.p (AY x.c).c.base (AY x.c).c.scale (AY x.c).c.off (cQ x) (Ie x)) (gD x.l a) then zQ x else (A5 x a /\ (gD x.l a).a < (↑x.c.ns.length : Int)) /\
 (∃ (a_2 : IJ), (VB x a_2 = (gD x.c.ns (gD x.l a).a.toNat).mi /\ x.m = x.m /\ ZG x /\ ZI x /\ aE /\ ZG x /\ ZI x /\ aW x /\ (↑a_2.i : Int) = (↑a : Int) /\ Zy x /\ bH x /\
 x.c.base = x.c.base /\ x.c.scale = x.c.scale /\ x.c.off = x.c.off /\ aG x /\ aX x /\ Zv x /\ Zz x /\ Jr x /\ Kw x /\ Ib x /\ Im x /\ Jv x /\ cA x /\
 fX x /\ fT x /\ dL x /\ ZF /\ sN = sN /\ dP x /\ Kh x /\ cX x /\ Zx /\ (∀ (i : Nat), i < 40 -> mtG x a_2.i a_2.j i = mtF x a i) /\ (gD x.l a_2.i).a = (gD x.l a).a /\
 (gD x.l a_2.i).b = (gD x.l a).b) /\ fP a_2 x a) /\ ∀ (a_2 : IJ), fP a_2 x a -> (0 <= (gD x.l a_2.i).b /\ (gD x.l a_2.i).b < (↑x.c.ns.length : Int)) /\ bif decide (VB x a_2 < (gD x.c.ns (gD x.l
 a_2.i).b.toNat).mi) then D1 x a_2 /\ bif mtG x a_2.i a_2.j (eU x a_2) then zQ x else D1 x a_2 /\ ∃ (a_4 : IJ), (VB x a_4 = IntKind.i64.wrap (VB x a_2 + 1) /\ x.m = x.m /\
 ZG x /\ ZI x /\ aE /\ ZG x /\ ZI x /\ aW x /\ (↑a_4.i : Int) = (↑a_2.i : Int) /\ Zy x /\ bH x /\ x.c.base = x.c.base /\ x.c.scale = x.c.scale /\ x.c.off = x.c.off /\ aG x
 /\ aX x /\ Zv x /\ Zz x /\ Jr x /\ Kw x /\ Ib x /\ Im x /\ Jv x /\ cA x /\ fX x /\ fT x /\ dL x /\ ZF /\ sN = sN /\ dP x /\
 Kh x /\ cX x /\ Zx /\ (∀ (i : Nat), i < 40 -> mtG x a_4.i a_4.j i = bif decide (i = eU x a_2) then true else mtG x a_2.i a_2.j i) /\ (gD x.l a_4.i).a = (gD x.l a_2.i).a /\ (gD x.l a_4.i).b = (gD
 x.l a_2.i).b) /\ fP a_4 x a /\ xJ a_4 < xJ a_2 else ∃ (a_4 : Nat), (x.m = x.m /\ ZG x /\ ZI x /\ aE /\ ZG x /\ ZI x /\ aW x /\ (↑a_4 : Int) = IntKind.i64.wrap
 ((↑a_2.i : Int) + 1) /\ Zy x /\ bH x /\ x.c.base = x.c.base /\ x.c.scale = x.c.scale /\ x.c.off = x.c.off /\ aG x /\ aX x /\ Zv x /\ Zz x /\ Jr x /\ Kw x /\ Ib x /\
 Im x /\ Jv x /\ cA x /\ fX x /\ fT x /\ dL x /\ ZF /\ sN = sN /\ dP x /\ Kh x /\ cX x /\ Zx /\ ∀ (i : Nat), i < 40 -> mtF x a_4 i = mtG x a_2.i
 a_2.j i) /\ cN a_4 x /\ cK x a_4 < cK x a else (Hq x).fst = decide ((↑x.l.length : Int) >= x.m) /\ yQ x) := by kernel_rfl
def AWT : Ann := ann 71 [(VS, C_openX.spec dC1)]
def AYN (x : Prv) : Prop := CR Try.prog AWT qZ (AL qZ) (xPrv x) (AE []) (.tup [.bool false, .int (BS x.c)]) [] [] []
abbrev Fa:=Prv.c
attribute [go_sem] Fa
theorem BDQ (x : Prv) : (AYN x) = (And (QL (Fa x) (Fa x) (λ i=>BC i (Fa x) (BG (Fa x) i) (BD (Fa x) i) (AP (Fa x) i) (AZ (Fa x) i) (AO (Fa x) i) (BE (Fa x) i) (AM (Fa x) i)) (XV (Fa x) (Fa x)) (PJ (LQ (Fa x)))) (DH (IE (LQ (Fa x))) Cy (XO (Fa x) (LQ (Fa x))) (DH (JV (CG (SM (Prv.l x))) 40) Cy (XO (Fa x) 3) OW))) := by kernel_rfl
theorem BKD {c : Cht} {p : Pr} (hn : c.ns.length < 1073741824) (h : Sw c p = true) : ((0 <= p.a /\ p.a < c.ns.length) /\ 0 <= p.b /\ p.b < c.ns.length) /\ (nA c p).mi < (nB c p).mi := by
 unfold Sw at h
 cases hq : ACF c.ns.length p with
 | false => rw [hq] at h; cases h
 | true =>
  rw [hq] at h
  have h : (bif (!(p.a == p.b && p.b == p.a)) then decide ((nA c p).mi < (nB c p).mi) else false) = true := h
  unfold ACF wr TM at hq
  rw [NU (by omega) (by omega)] at hq
  simp only [Bool.and_eq_true, decide_eq_true_eq] at hq
  refine ⟨⟨by omega, by omega⟩, ?_⟩
  cases hb : (!(p.a == p.b && p.b == p.a)) with
  | false => rw [hb] at h; cases h
  | true => rw [hb] at h; exact of_decide_eq_true h
theorem APE {x : Prv} : ∀ {m k : Nat}, k <= m -> pvK x m = true -> pvK x k = true
 | 0, k, h, hm => by
  obtain rfl : k = 0 := by omega
  rfl
 | m + 1, k, h, hm => by
  by_cases hk : k = m + 1
  ·subst hk; exact hm
  ·have h2 : (pvK x m && Lf x.c (gD x.l m) && !hitJ (mtF x m) (Tm x m).toNat (pvB x m - Tm x m).toNat) = true := hm
   rw [Bool.and_eq_true, Bool.and_eq_true] at h2
   exact APE (by omega) h2.1.1
theorem BDG {f : Nat -> Bool} {a : Nat} : ∀ {m k : Nat}, k <= m -> hitJ f a k = true -> hitJ f a m = true
 | 0, k, h, hm => by
  obtain rfl : k = 0 := by omega
  exact hm
 | m + 1, k, h, hm => by
  by_cases hk : k = m + 1
  ·subst hk; exact hm
  ·show (hitJ f a m || f (a + m)) = true
   rw [BDG (show k <= m by omega) hm]; rfl
theorem AVH {x : Prv} (h1 : ¬(x.l.length : Int) > 40) (h2 : (x.l.all λ p => Sw x.c p) = true) {k : Nat} (hk : k < x.l.length) (h3 : pvK x (k + 1) = false) : (Hq x).1 = false /\ (Hq x).2 = 0 := by
 have h : pvK x x.l.length = false := by
  cases hq : pvK x x.l.length with
  | false => rfl
  | true => rw [APE (show k + 1 <= x.l.length from hk) hq] at h3; cases h3
 unfold Hq; rw [decide_eq_false h1, h2, h]; exact ⟨rfl, rfl⟩
theorem BSQ (x : Prv) (h1 : x.c.ms.length < 4611686018427387904 /\ x.c.ns.length < 4611686018427387904 /\ x.l.length < 4611686018427387904) (h0 : BS x.c = 0) : BBZ x := by
 have hl := PE h0
 have hs := cM h0
 have hM := BQD hs.1
 rw [BJR]; delta Zy bH I7 L3 AGW F9 G4 M4 AHK AFB N6 uV uF AAF X5 Iw tB vN AAH uD AAZ bG T2 bK N9 aF Y4 ABF Ql uM tX tJ V6 S5 uI O3 uL Zk Qk aP Qe Zr tP X3 uE AAR O9 AAP uK V1 vI Z8 Z2 ABE vC P4 tR ZF O5 vO uT Q8 tY R8 tO tE U8 Z0 T6 uU R3 tI Z3 U7 X1 uR V9 tT ZG P8 Y7 ZI aE aW aG aX Zv Zz vG Qh Qg tG Qb W8 Qm Qi Y8 Qa Qp Zx cN zX Jr Kw Ib Im Jv cQ Jm yX yW A4 Ie Cc A3 dG Sk zB zJ xV yP xY C3 yS Kh fQ zY zD yB zC yU yF E4 A5 yQ zQ VB cA fX fT dL dP cX cK fP eU D1 xJ; simp only [CC, eq_self, implies_true, forall_const, DW, P0, Rm, APL, AFD, BNB]
 refine ⟨⟨⟨h1.1, h1.2.1⟩, h0⟩, λ hc => ?_, λ hc => ⟨⟨h1.2.2, by omega⟩, λ ha => ?_, λ ha => ⟨rfl, ⟨0, ⟨rfl, λ _ _ => rfl⟩, Nat.zero_le _, rfl⟩, ?_⟩⟩⟩
 ·unfold Hq; rw [decide_eq_true hc]; exact ⟨rfl, rfl⟩
 ·unfold Hq; rw [decide_eq_false hc, ha]; exact ⟨rfl, rfl⟩
 ·rintro k ⟨hk, hp⟩
  have hP : ∀ k, k < x.l.length -> _ := λ k hk => BKD (by omega) (List.all_eq_true.1 ha _ (LS hk))
  have mA : ∀ k, k < x.l.length -> 0 <= Tm x k /\ Tm x k < x.c.ms.length := λ k hk => hM _ (by have := (hP k hk).1; omega)
  have mB : ∀ k, k < x.l.length -> 0 <= pvB x k /\ pvB x k < x.c.ms.length := λ k hk => hM _ (by have := (hP k hk).1; omega)
  have mL : ∀ k, k < x.l.length -> Tm x k < pvB x k := λ k hk => (hP k hk).2
  have eB : ∀ k, (gD x.c.ns (gD x.l k).b.toNat).mi = pvB x k := λ _ => rfl
  have eA : ∀ k, (gD x.c.ns (gD x.l k).a.toNat).mi = Tm x k := λ _ => rfl
  refine ⟨λ hlt => ⟨⟨by omega, by omega⟩, ⟨(hP k (by omega)).1, ⟨hl.2.1.2, hl.2.2⟩, hM⟩, λ hL => ?_, λ hL => ⟨(hP k (by omega)).1.1, ⟨⟨k, 0⟩, ⟨by rw [eA]; show Tm x k + ((0 : Nat) : Int) = _; omega, rfl, λ i hi => ?_, rfl, rfl⟩, ⟨by show k < _; omega, rfl⟩, ⟨hp, hL⟩, by have := mL k (by omega); show Tm x k + ((0 : Nat) : Int) <= pvB x k; omega, rfl⟩, ?_⟩⟩, λ hge => ?_⟩
  ·refine AVH hc ha (k := k) (by omega) ?_
   show (pvK x k && Lf x.c (gD x.l k) && _) = false
   rw [hL]; simp
  ·show (mtF x k i || (decide (Tm x k <= i) && decide ((i : Int) < Tm x k + ((0 : Nat) : Int)))) = mtF x k i
   rw [show (decide (Tm x k <= i) && decide ((i : Int) < Tm x k + ((0 : Nat) : Int))) = false by simp, Bool.or_false]
  ·rintro ⟨i, j⟩ ⟨⟨y1, y2⟩, ⟨y3, y4⟩, y5, y6⟩
   dsimp only at y1 y2 y3 y4 y5 y6 ⊢
   simp only [eB]
   have a1 := mA i y1
   have b1 := mB i y1
   have l1 := mL i y1
   have e : (Tm x i + (j : Int)).toNat = (Tm x i).toNat + j := by omega
   have eG : mtG x i j ((Tm x i).toNat + j) = mtF x i ((Tm x i).toNat + j) := by
    show (mtF x i _ || (decide (Tm x i <= _) && decide (_ < Tm x i + (j : Int)))) = _
    rw [decide_eq_false (show ¬(((Tm x i).toNat + j : Nat) : Int) < Tm x i + (j : Int) by omega), Bool.and_false, Bool.or_false]
   refine ⟨(hP i y1).1.2, λ hb => ⟨⟨⟨by omega, by omega⟩, by omega⟩, λ hm => ?_, λ hm => ⟨⟨⟨by omega, by omega⟩, by omega⟩, ⟨i, j + 1⟩, ⟨?_, rfl, λ t ht => ?_, rfl, rfl⟩, ⟨⟨y1, y2⟩, ⟨y3, y4⟩, by show Tm x i + ((j + 1 : Nat) : Int) <= pvB x i; omega, ?_⟩, by show 50 - (j + 1) < _; omega⟩⟩, λ hb => ⟨i + 1, ⟨by rw [NU (by omega) (by omega)]; rfl, λ t ht => ?_⟩, ⟨by omega, ?_⟩, by omega⟩⟩
   ·rw [e, eG] at hm
    refine AVH hc ha (k := i) y1 ?_
    have h9 : hitJ (mtF x i) (Tm x i).toNat (j + 1) = true := by
     show (hitJ _ _ _ || _) = true
     rw [hm, Bool.or_true]
    show (pvK x i && Lf x.c (gD x.l i) && !hitJ _ _ _) = false
    rw [BDG (show j + 1 <= (pvB x i - Tm x i).toNat by omega) h9]; simp
   ·show Tm x i + ((j + 1 : Nat) : Int) = _
    rw [NU (by omega) (by omega)]; omega
   ·show (mtF x i t || (decide (Tm x i <= t) && decide ((t : Int) < Tm x i + ((j + 1 : Nat) : Int)))) = bif _ then true else (mtF x i t || (decide (Tm x i <= t) && decide ((t : Int) < Tm x i + (j : Int))))
    rw [e]
    by_cases h7 : t = (Tm x i).toNat + j
    ·rw [decide_eq_true h7, decide_eq_true (show Tm x i <= t by omega), decide_eq_true (show (t : Int) < Tm x i + ((j + 1 : Nat) : Int) by omega)]; simp
    ·rw [decide_eq_false h7]
     show _ = (mtF x i t || _)
     congr 2
     exact decide_eq_decide.2 (by omega)
   ·rw [e, eG] at hm
    show (hitJ _ _ _ || _) = false
    rw [y6, hm]; rfl
   ·have e3 : Tm x i + (j : Int) = pvB x i := by omega
    show (mtF x i t || _) = (mtF x i t || (decide (Tm x i <= t) && decide ((t : Int) < Tm x i + (j : Int))))
    rw [e3]
   ·have e3 : (pvB x i - Tm x i).toNat = j := by omega
    show (pvK x i && Lf x.c (gD x.l i) && !hitJ _ _ _) = true
    rw [e3, y3, y4, y6]; rfl
  ·have e : k = x.l.length := by omega
   subst e
   unfold Hq; rw [decide_eq_false hc, ha, hp]; exact ⟨by simp, rfl⟩
theorem BKM : AR Try.prog AID (C_prov.spec dPrv) := okT C_prov (λ (x : Prv) h => by
 have h1 : x.c.ms.length < 4611686018427387904 /\ x.c.ns.length < 4611686018427387904 /\ x.l.length < 4611686018427387904 := h
 by_cases h0 : BS x.c = 0
 ·have e : C_prov.val x = .tup [.bool (Hq x).1, .int (Hq x).2] := by
   show AVal.tup [.bool (ACN x).1, .int (ACN x).2] = _
   unfold ACN; rw [h0]; rfl
  rw [e]
  exact Ky (A := BIE x) (L := []) (keep := []) (ren := []) (fz := []) AJU (by kernel_rfl) (AC F7 (AC BWM (AC AYJ AI))) (BSQ x h1 h0)
 ·have h0' : (BS x.c == 0) = false := by simpa using h0
  have e : C_prov.val x = .tup [.bool false, .int (BS x.c)] := by
   show AVal.tup [.bool (ACN x).1, .int (ACN x).2] = _
   unfold ACN; rw [h0']; rfl
  rw [e]
  refine Ky (A := AWT) (L := []) (keep := []) (ren := []) (fz := []) AJU (by kernel_rfl) (AC M3 AI) ?_
  show AYN x; rw [BDQ]<;> delta LV He CI CH FE EE FH CL AF CV DC AS CG FG JT HP GG IQ IV IX JU GZ GM HK LC JV VO PX OW SM Fa AH DD EL EW GS AK BN BQ CF AJ HR GI FT BJ AN AM BV AZ CD BR JD BL AO DZ EI DV DI CB GN AT BB BO DG DY AP BT BA ED AW BE AV FN GF FA CM GR GQ BD EG IT GD GJ EC DH EA FY FM BC BF CA BG GT CE IB FR NF IE LQ Cy Gs PJ XO XV ZW QL; simp only [CC, eq_self, implies_true, forall_const, DW]
  simp [h1, h0]) _
end Go.Bal
