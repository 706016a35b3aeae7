/- Package chart: Late, Proves. -/
import Derived.Test.YtdbjalgfomknhaaGreatChK
set_option linter.unusedVariables false
set_option linter.unusedSimpArgs false
namespace Go.Bal
open Go Go.Sym Go.Proofs
structure Prv where
 c : Cht
 m : Int
 l : List Pr
def dPrv : List AVal -> Heap -> Option (Prv × List (Nat × Nat) × List Nat)
 | [x, .d m, y], H => match nM x H, sB y H with
  | some (c, f), some (n, g, e) => some (⟨c, HK m, IK n λ i => dPr (g i)⟩, [], f ++ e)
  | _, _ => none
 | _, _ => none
def xPrv (x : Prv) : List AVal := [.d (Dj x.c), .int x.m, .d (eO x.l)]
def Zg (x : Prv) (k : Nat) : Int := (nA x.c (gD x.l k)).mi
def pvB (x : Prv) (k : Nat) : Int := (nB x.c (gD x.l k)).mi
def mtF (x : Prv) : Nat -> Nat -> Bool
 | 0, _ => false
 | k + 1, i => mtF x k i || (decide (Zg x k <= i) && decide ((i : Int) < pvB x k))
def B5 (f : Nat -> Bool) (a : Nat) : Nat -> Bool
 | 0 => false
 | j + 1 => B5 f a j || f (a + j)
def pvK (x : Prv) : Nat -> Bool
 | 0 => true
 | k + 1 => pvK x k && Xp x.c (gD x.l k) && !B5 (mtF x k) (Zg x k).toNat (pvB x k - Zg x k).toNat
def Na (x : Prv) : Bool × Int := bif decide ((x.l.length : Int) > 40) then (false, 3) else bif !(x.l.all λ p => Xo x.c p) then (false, 2) else (pvK x x.l.length && decide ((x.l.length : Int) >= x.m), 0)
def W5 (x : Prv) : Bool × Int := bif AM x.c == 0 then Na x else (false, AM x.c)
def C_prov : Ctr := { α := Prv, xs := xPrv, val := λ x => .tup [.bool (W5 x).1, .int (W5 x).2], keep := λ _ => [], pre := λ x => [x.c.ms.length < 4611686018427387904 /\ x.c.ns.length < 4611686018427387904 /\ x.l.length < 4611686018427387904] }
def pvS (x : Prv) (k : Nat) : List (Nat × AVal) := [(1, .int x.m), (2, .d (eO x.l)), (3, .bptr 201 0), (8, .bptr 203 0), (10, .rptr 205 1 0 0), (33, .d (eO x.l)), (34, .int x.l.length), (35, .int k)]
def pvH (x : Prv) (f : Nat -> Bool) : List (Nat × HCell) := [(201, .live (sJ x.c)), (203, .live (dkB (BA x.c) 204)), (204, .live (dkM (BA x.c))), (205, .live (.row 1 40 λ i => .v (.bool (f i))))]
def pv10 (x : Prv) : Shape := { α := Nat, dflt := 0, T := λ k => ⟨pvS x k, pvH x (mtF x k)⟩, inv := λ k => k <= x.l.length /\ pvK x k = true, meas := λ k => x.l.length - k, first := [(201, 1000), (203, 2016), (204, 2017), (205, 9000)] }
def mtG (x : Prv) (k j : Nat) : Nat -> Bool := λ i => mtF x k i || (decide (Zg x k <= i) && decide ((i : Int) < Zg x k + j))
def pv15 (x : Prv) (m : Nat) : Shape := { α := IJ, dflt := default, T := λ s => ⟨[(12, .bptr 206 0), (13, .int (Zg x s.i + s.j))] ++ pvS x s.i, pvH x (mtG x s.i s.j) ++ [(206, .live (.box [.int (gD x.l s.i).a, .int (gD x.l s.i).b]))]⟩, inv := λ s => (s.i < x.l.length /\ x.l.length - s.i = m) /\ (pvK x s.i = true /\ Xp x.c (gD x.l s.i) = true) /\ (Zg x s.i + s.j <= pvB x s.i /\ B5 (mtF x s.i) (Zg x s.i).toNat s.j = false), meas := λ s => 50 - s.j, first := [(206, 12032)] }
def BBS (x : Prv) : Ann := { ann 71 [(ZZ, C_open.spec kM), (n_eP, C4Pp.spec d4Pp), (AJQ, C_late.spec dDkP)] with loops := λ id => if id = 10 then some [pv10 x] else none, inner := λ gs id => if id = 15 then some [pv15 x (gs.getD 0 0)] else none }
def BIO (x : Prv) : Prop := CH Try.prog (BBS x) kX (AH kX) (xPrv x) (AB []) (.tup [.bool (Na x).1, .int (Na x).2]) [] [] []
abbrev dM (x : Prv) : Prop := x.c.p.lo = x.c.p.lo
abbrev eL (x : Prv) : Prop := x.c.p.hi = x.c.p.hi
abbrev wR (x : Prv) : List Mk := IK x.c.ms.length λ (i : Nat) => gD x.c.ms i
abbrev wO (x : Prv) : Nat := (wR x).length
abbrev AFB (x : Prv) (i : Nat) : Mk := gD (wR x) i
abbrev xP (x : Prv) : List Nt := IK x.c.ns.length λ (i : Nat) => gD x.c.ns i
abbrev yD (x : Prv) : Nat := (xP x).length
abbrev yP (x : Prv) (i : Nat) : Nt := gD (xP x) i
abbrev ABK (x : Prv) (i : Nat) : Span := (yP x i).t
abbrev AFJ (x : Prv) (i : Nat) : Span := (yP x i).s
abbrev I4 (x : Prv) : Cht := Cht.mk x.c.p x.c.base x.c.scale x.c.off (wR x) (xP x)
abbrev rD (x : Prv) : List Pr := IK x.l.length λ (i : Nat) => gD x.l i
abbrev pU (x : Prv) : Nat := (rD x).length
abbrev L8 (x : Prv) (i : Nat) : Pr := gD (rD x) i
abbrev G9 (x : Prv) : Dk := BA (I4 x)
abbrev Nx (x : Prv) : Cht := (G9 x).c
abbrev qB (x : Prv) : Span := (Nx x).p
abbrev qD (x : Prv) : Int := (qB x).lo
abbrev T3 (x : Prv) : Prop := qD x = qD x
abbrev oJ (x : Prv) : Int := (qB x).hi
abbrev O7 (x : Prv) : Prop := oJ x = oJ x
abbrev fL (x : Prv) : Int := (Nx x).base
abbrev D2 (x : Prv) : Prop := fL x = fL x
abbrev fO (x : Prv) : Int := (Nx x).scale
abbrev L7 (x : Prv) : Prop := fO x = fO x
abbrev dY (x : Prv) : Int := (Nx x).off
abbrev T5 (x : Prv) : Prop := dY x = dY x
abbrev D9 (x : Prv) : List Mk := (Nx x).ms
abbrev Vm (x : Prv) : Nat := (D9 x).length
abbrev qS (x : Prv) (i : Nat) : Mk := gD (D9 x) i
abbrev rG (x : Prv) : List Mk := IK (Vm x) λ (i : Nat) => qS x i
abbrev pI (x : Prv) : Nat := (rG x).length
abbrev M6 (x : Prv) (i : Nat) : Mk := gD (rG x) i
abbrev J0 (x : Prv) (i : Nat) : Int := (M6 x i).pl
abbrev pO (x : Prv) (i : Nat) : Int := (qS x i).pl
abbrev E3 (x : Prv) (i : Nat) : Int := (M6 x i).ht
abbrev oT (x : Prv) (i : Nat) : Int := (qS x i).ht
abbrev dQ (x : Prv) : List Nt := (Nx x).ns
abbrev Vg (x : Prv) : Nat := (dQ x).length
abbrev fB (x : Prv) (i : Nat) : Nt := gD (dQ x) i
abbrev Vd (x : Prv) : List Nt := IK (Vg x) λ (i : Nat) => fB x i
abbrev dP (x : Prv) : Nat := (Vd x).length
abbrev pF (x : Prv) (i : Nat) : Nt := gD (Vd x) i
abbrev M8 (x : Prv) (i : Nat) : Int := (pF x i).mi
abbrev oX (x : Prv) (i : Nat) : Int := (fB x i).mi
abbrev T2 (x : Prv) (i : Nat) : Span := (pF x i).t
abbrev Q2 (x : Prv) (i : Nat) : Int := (T2 x i).lo
abbrev B6 (x : Prv) (i : Nat) : Span := (fB x i).t
abbrev oO (x : Prv) (i : Nat) : Int := (B6 x i).lo
abbrev U7 (x : Prv) (i : Nat) : Int := (T2 x i).hi
abbrev qH (x : Prv) (i : Nat) : Int := (B6 x i).hi
abbrev P3 (x : Prv) (i : Nat) : Span := (pF x i).s
abbrev O1 (x : Prv) (i : Nat) : Int := (P3 x i).lo
abbrev J7 (x : Prv) (i : Nat) : Span := (fB x i).s
abbrev qY (x : Prv) (i : Nat) : Int := (J7 x i).lo
abbrev E5 (x : Prv) (i : Nat) : Int := (P3 x i).hi
abbrev oQ (x : Prv) (i : Nat) : Int := (J7 x i).hi
abbrev Dw : Prop := ∀ (i : Nat), i < 40 -> false = false
abbrev H5 (x : Prv) (n : Int) : Bool := hasN (Vd x) n
abbrev oP (x : Prv) (n : Int) : Bool := hasN (dQ x) n
abbrev rN (x : Prv) (n : Int) : Int := (G9 x).st n
abbrev zP (x : Prv) : Prop := ∀ (n : Int), rN x n = rN x n
abbrev qR (x : Prv) (n : Int) : Nt := ntOf (Vd x) n
abbrev G2 (x : Prv) (n : Int) : Int := (qR x n).mi
abbrev qM (x : Prv) (n : Int) : Nt := ntOf (dQ x) n
abbrev qI (x : Prv) (n : Int) : Int := (qM x n).mi
abbrev C8 (x : Prv) (n : Int) : Span := (qR x n).t
abbrev F8 (x : Prv) (n : Int) : Int := (C8 x n).lo
abbrev L4 (x : Prv) (n : Int) : Span := (qM x n).t
abbrev pE (x : Prv) (n : Int) : Int := (L4 x n).lo
abbrev U2 (x : Prv) (n : Int) : Int := (C8 x n).hi
abbrev pJ (x : Prv) (n : Int) : Int := (L4 x n).hi
abbrev A9 (x : Prv) (n : Int) : Span := (qR x n).s
abbrev M9 (x : Prv) (n : Int) : Int := (A9 x n).lo
abbrev Q7 (x : Prv) (n : Int) : Span := (qM x n).s
abbrev pM (x : Prv) (n : Int) : Int := (Q7 x n).lo
abbrev Q4 (x : Prv) (n : Int) : Int := (A9 x n).hi
abbrev qE (x : Prv) (n : Int) : Int := (Q7 x n).hi
abbrev Dy (x : Prv) : Prop := x.l.length = x.l.length
abbrev J2 (x : Prv) (i : Nat) : Prop := (gD x.l i).a = (gD x.l i).a
abbrev zV (x : Prv) (i : Nat) : Prop := (gD x.l i).b = (gD x.l i).b
abbrev Dz (x : Prv) : Prop := ∀ (i : Nat), i < x.l.length -> J2 x i /\ zV x i
abbrev fA : Prop := 0 = 0
abbrev fN (x : Prv) : Prop := (↑x.l.length : Int) = (↑x.l.length : Int)
abbrev eD (x : Prv) : Prop := x.c.ms.length = x.c.ms.length
abbrev eU (x : Prv) : Prop := ∀ (i : Nat), i < x.c.ms.length -> (gD x.c.ms i).pl = (gD x.c.ms i).pl /\ (gD x.c.ms i).ht = (gD x.c.ms i).ht
abbrev dZ (x : Prv) : Prop := x.c.ns.length = x.c.ns.length
abbrev fD (x : Prv) : Prop := ∀ (i : Nat), i < x.c.ns.length -> (gD x.c.ns i).mi = (gD x.c.ns i).mi /\ (gD x.c.ns i).t.lo = (gD x.c.ns i).t.lo /\ (gD x.c.ns i).t.hi = (gD x.c.ns i).t.hi /\ (gD x.c.ns i).s.lo = (gD
 x.c.ns i).s.lo /\ (gD x.c.ns i).s.hi = (gD x.c.ns i).s.hi
abbrev pK (i : Nat) (x : Prv) : Prop := i < (BA x.c).c.ms.length
abbrev Vi (x : Prv) (i : Nat) : Int := (gD (BA x.c).c.ms i).pl
abbrev Vn (x : Prv) (i : Nat) : Int := (gD (BA x.c).c.ms i).ht
abbrev pS (i : Nat) (x : Prv) : Prop := i < (BA x.c).c.ns.length
abbrev Vf (x : Prv) (i : Nat) : Int := (gD (BA x.c).c.ns i).mi
abbrev A5 (x : Prv) (i : Nat) : Span := (gD (BA x.c).c.ns i).t
abbrev Vl (x : Prv) (i : Nat) : Int := (A5 x i).lo
abbrev Vk (x : Prv) (i : Nat) : Int := (A5 x i).hi
abbrev zY (x : Prv) (i : Nat) : Span := (gD (BA x.c).c.ns i).s
abbrev Uz (x : Prv) (i : Nat) : Int := (zY x i).lo
abbrev Vh (x : Prv) (i : Nat) : Int := (zY x i).hi
abbrev eC : Prop := 40 = 40
abbrev gQ (a : Nat) (x : Prv) : Prop := a <= x.l.length /\ pvK x a = true
abbrev wG (a : Nat) (x : Prv) : Prop := (↑a : Int) < (↑x.l.length : Int)
abbrev Ov (x : Prv) : Prop := (BA x.c).c.p.lo = (BA x.c).c.p.lo
abbrev Nv (x : Prv) : Prop := (BA x.c).c.p.hi = (BA x.c).c.p.hi
abbrev Nm (x : Prv) : Prop := (BA x.c).c.base = (BA x.c).c.base
abbrev Pg (x : Prv) : Prop := (BA x.c).c.scale = (BA x.c).c.scale
abbrev Nn (x : Prv) : Prop := (BA x.c).c.off = (BA x.c).c.off
abbrev hG (x : Prv) : List Mk := IK (BA x.c).c.ms.length λ (i : Nat) => gD (BA x.c).c.ms i
abbrev Ou (x : Prv) : Nat := (hG x).length
abbrev vO (x : Prv) (i : Nat) : Mk := gD (hG x) i
abbrev wA (x : Prv) (i : Nat) : Int := (vO x i).pl
abbrev uP (x : Prv) (i : Nat) : Int := (vO x i).ht
abbrev Pf (x : Prv) : List Nt := IK (BA x.c).c.ns.length λ (i : Nat) => gD (BA x.c).c.ns i
abbrev Ij (x : Prv) : Nat := (Pf x).length
abbrev wK (i : Nat) (x : Prv) : Prop := i < Ij x
abbrev jR (x : Prv) (i : Nat) : Nt := gD (Pf x) i
abbrev Wr (x : Prv) (i : Nat) : Int := (jR x i).mi
abbrev uR (x : Prv) (i : Nat) : Span := (jR x i).t
abbrev vD (x : Prv) (i : Nat) : Int := (uR x i).lo
abbrev tW (x : Prv) (i : Nat) : Int := (uR x i).hi
abbrev tR (x : Prv) (i : Nat) : Span := (jR x i).s
abbrev vV (x : Prv) (i : Nat) : Int := (tR x i).lo
abbrev uF (x : Prv) (i : Nat) : Int := (tR x i).hi
abbrev tN (x : Prv) (n : Int) : Bool := hasN (Pf x) n
abbrev Om (x : Prv) : Prop := ∀ (n : Int), (BA x.c).st n = (BA x.c).st n
abbrev jJ (x : Prv) (n : Int) : Nt := ntOf (Pf x) n
abbrev vB (x : Prv) (n : Int) : Int := (jJ x n).mi
abbrev uB (x : Prv) (n : Int) : Span := (jJ x n).t
abbrev uN (x : Prv) (n : Int) : Int := (uB x n).lo
abbrev uO (x : Prv) (n : Int) : Int := (uB x n).hi
abbrev vN (x : Prv) (n : Int) : Span := (jJ x n).s
abbrev wI (x : Prv) (n : Int) : Int := (vN x n).lo
abbrev wM (x : Prv) (n : Int) : Int := (vN x n).hi
abbrev uI (x : Prv) (a : Nat) : Prop := 0 <= (gD x.l a).a
abbrev tT (x : Prv) : Prop := (Na x).snd = 0
abbrev uK (x : Prv) : Prop := (Na x).fst = false /\ tT x
abbrev ZF (x : Prv) (a : IJ) : Int := Zg x a.i + (↑a.j : Int)
abbrev fX (x : Prv) : Prop := (BA x.c).c.ms.length = (BA x.c).c.ms.length
abbrev fW (x : Prv) : Prop := ∀ (i : Nat), pK i x -> Vi x i = Vi x i /\ Vn x i = Vn x i
abbrev iD (x : Prv) : Prop := (BA x.c).c.ns.length = (BA x.c).c.ns.length
abbrev gJ (x : Prv) : Prop := ∀ (i : Nat), pS i x -> Vf x i = Vf x i /\ Vl x i = Vl x i /\ Vk x i = Vk x i /\ Uz x i = Uz x i /\ Vh x i = Vh
 x i
abbrev jB (x : Prv) : Prop := ∀ (n : Int), hasN (BA x.c).c.ns n = hasN (BA x.c).c.ns n
abbrev iQ (x : Prv) : Prop := ∀ (n : Int), (ntOf (BA x.c).c.ns n).mi = (ntOf (BA x.c).c.ns n).mi /\ (ntOf (BA x.c).c.ns n).t.lo = (ntOf (BA x.c).c.ns n).t.lo /\ (ntOf (BA x.c).c.ns n).t.hi = (ntOf (BA
 x.c).c.ns n).t.hi /\ (ntOf (BA x.c).c.ns n).s.lo = (ntOf (BA x.c).c.ns n).s.lo /\ (ntOf (BA x.c).c.ns n).s.hi = (ntOf (BA x.c).c.ns n).s.hi
abbrev gR (x : Prv) (a : Nat) : Nat := x.l.length - a
abbrev gS (a : IJ) (x : Prv) (a1 : Nat) : Prop := (a.i < x.l.length /\ x.l.length - a.i = gR x a1) /\ (pvK x a.i = true /\ Xp x.c (gD x.l a.i) = true) /\ ZF x a <= pvB x a.i /\ B5 (mtF x a.i) (Zg
 x a.i).toNat a.j = false
abbrev gZ (x : Prv) (a : IJ) : Nat := (ZF x a).toNat
abbrev tV (x : Prv) (a : IJ) : Prop := (0 <= ZF x a /\ ZF x a < (↑40 : Int)) /\ (gZ x a).succ.le 40
abbrev vL (a : IJ) : Nat := 50 - a.j
theorem BLU (x : Prv) : (BIO x) = ((dM x /\ eL x /\ x.c.base = x.c.base /\ x.c.scale = x.c.scale /\ x.c.off = x.c.off /\ wO x = x.c.ms.length /\ (∀ (i : Nat), i < wO x -> (AFB x i).pl = (gD
 x.c.ms i).pl /\ (AFB x i).ht = (gD x.c.ms i).ht) /\ yD x = x.c.ns.length /\ (∀ (i : Nat), i < yD x -> (yP x i).mi = (gD x.c.ns i).mi /\ (ABK x i).lo = (gD x.c.ns i).t.lo /\ (ABK x i).hi = (gD
 x.c.ns i).t.hi /\ (AFJ x i).lo = (gD x.c.ns i).s.lo /\ (AFJ x i).hi = (gD x.c.ns i).s.hi) /\ (wO x < 4611686018427387904 /\ yD x < 4611686018427387904) /\ AM (I4 x) = 0) /\ bif decide
 ((↑x.l.length : Int) > 40) then (Na x).fst = false /\ (Na x).snd = 3 else (pU x = x.l.length /\ (∀ (i : Nat), i < pU x -> (L8 x i).a = (gD x.l i).a /\ (L8 x i).b = (gD x.l i).b) /\ T3
 x /\ O7 x /\ D2 x /\ L7 x /\ T5 x /\ pI x = Vm x /\ (∀ (i : Nat), i < pI x -> J0 x i = pO x i /\ E3 x i = oT x i) /\ dP x = Vg x /\ (∀ (i :
 Nat), i < dP x -> M8 x i = oX x i /\ Q2 x i = oO x i /\ U7 x i = qH x i /\ O1 x i = qY x i /\ E5 x i = oQ x i) /\ Dw /\ gH = gH /\ (∀ (n :
 Int), H5 x n = oP x n) /\ zP x /\ (∀ (n : Int), G2 x n = qI x n /\ F8 x n = pE x n /\ U2 x n = pJ x n /\ M9 x n = pM x n /\ Q4 x n = qE
 x n) /\ T3 x /\ O7 x /\ D2 x /\ L7 x /\ T5 x /\ Vm x = pI x /\ (∀ (i : Nat), i < Vm x -> pO x i = J0 x i /\ oT x i = E3 x i) /\ Vg x =
 dP x /\ (∀ (i : Nat), i < Vg x -> oX x i = M8 x i /\ oO x i = Q2 x i /\ qH x i = U7 x i /\ qY x i = O1 x i /\ oQ x i = E5 x i) /\ Dw /\
 gH = gH /\ (∀ (n : Int), oP x n = H5 x n) /\ zP x /\ (∀ (n : Int), qI x n = G2 x n /\ pE x n = F8 x n /\ pJ x n = U2 x n /\ pM x n = M9 x n /\
 qE x n = Q4 x n) /\ pU x < 4611686018427387904 /\ dP x < 1073741824) /\ bif !(rD x).all λ (x_1 : Pr) => Xo (Cht.mk (qB x) (fL x) (fO x) (dY x) (rG
 x) (Vd x)) x_1 then (Na x).fst = false /\ (Na x).snd = 2 else (Value.agg #[Value.bool false, Value.bool false, Value.bool false, Value.bool false, Value.bool false, Value.bool false, Value.bool false,
 Value.bool false, Value.bool false, Value.bool false, Value.bool false, Value.bool false, Value.bool false, Value.bool false, Value.bool false, Value.bool false, Value.bool false, Value.bool false, Value.bool false,
 Value.bool false, Value.bool false, Value.bool false, Value.bool false, Value.bool false, Value.bool false, Value.bool false, Value.bool false, Value.bool false, Value.bool false, Value.bool false, Value.bool false,
 Value.bool false, Value.bool false, Value.bool false, Value.bool false, Value.bool false, Value.bool false, Value.bool false, Value.bool false, Value.bool false]).cells.toList = (List.replicate 40 (Value.bool
 false).cells.toList).flatten /\ (∃ (a : Nat), (x.m = x.m /\ Dy x /\ Dz x /\ fA /\ Dy x /\ Dz x /\ fN x /\ (↑a : Int) = 0 /\ dM x /\ eL x /\ x.c.base = x.c.base /\ x.c.scale =
 x.c.scale /\ x.c.off = x.c.off /\ eD x /\ eU x /\ dZ x /\ fD x /\ (BA x.c).c.p.lo = qD x /\ (BA x.c).c.p.hi = oJ x /\ (BA x.c).c.base = fL x /\ (BA x.c).c.scale = fO
 x /\ (BA x.c).c.off = dY x /\ (BA x.c).c.ms.length = Vm x /\ (∀ (i : Nat), pK i x -> Vi x i = pO x i /\ Vn x i = oT x i) /\ (BA x.c).c.ns.length = Vg x /\ (∀ (i :
 Nat), pS i x -> Vf x i = oX x i /\ Vl x i = oO x i /\ Vk x i = qH x i /\ Uz x i = qY x i /\ Vh x i = oQ x i) /\ Dw /\ gH = gH /\ (∀ (n : Int),
 hasN (BA x.c).c.ns n = oP x n) /\ (∀ (n : Int), (BA x.c).st n = rN x n) /\ (∀ (n : Int), (ntOf (BA x.c).c.ns n).mi = qI x n /\ (ntOf (BA x.c).c.ns n).t.lo = pE x n /\ (ntOf (BA x.c).c.ns
 n).t.hi = pJ x n /\ (ntOf (BA x.c).c.ns n).s.lo = pM x n /\ (ntOf (BA x.c).c.ns n).s.hi = qE x n) /\ eC /\ ∀ (i : Nat), i < 40 -> mtF x a i = false) /\ gQ a x) /\ ∀ (a : Nat), gQ
 a x -> bif decide (wG a x) then (0 <= (↑a : Int) /\ wG a x) /\ (J2 x a /\ zV x a /\ Ov x /\ Nv x /\ Nm x /\ Pg x /\ Nn x /\ Ou x = (BA x.c).c.ms.length
 /\ (∀ (i : Nat), i < Ou x -> wA x i = Vi x i /\ uP x i = Vn x i) /\ Ij x = (BA x.c).c.ns.length /\ (∀ (i : Nat), wK i x -> Wr x i = Vf x i /\ vD x i
 = Vl x i /\ tW x i = Vk x i /\ vV x i = Uz x i /\ uF x i = Vh x i) /\ Dw /\ gH = gH /\ (∀ (n : Int), tN x n = hasN (BA x.c).c.ns n) /\ Om x /\ (∀ (n
 : Int), vB x n = (ntOf (BA x.c).c.ns n).mi /\ uN x n = (ntOf (BA x.c).c.ns n).t.lo /\ uO x n = (ntOf (BA x.c).c.ns n).t.hi /\ wI x n = (ntOf (BA x.c).c.ns n).s.lo /\ wM x n =
 (ntOf (BA x.c).c.ns n).s.hi) /\ Ov x /\ Nv x /\ Nm x /\ Pg x /\ Nn x /\ (BA x.c).c.ms.length = Ou x /\ (∀ (i : Nat), pK i x -> Vi x i = wA x i /\ Vn
 x i = uP x i) /\ (BA x.c).c.ns.length = Ij x /\ (∀ (i : Nat), pS i x -> Vf x i = Wr x i /\ Vl x i = vD x i /\ Vk x i = tW x i /\ Uz x i = vV
 x i /\ Vh x i = uF x i) /\ Dw /\ gH = gH /\ (∀ (n : Int), hasN (BA x.c).c.ns n = tN x n) /\ Om x /\ (∀ (n : Int), (ntOf (BA x.c).c.ns n).mi = vB x n /\ (ntOf (BA x.c).c.ns
 n).t.lo = uN x n /\ (ntOf (BA x.c).c.ns n).t.hi = uO x n /\ (ntOf (BA x.c).c.ns n).s.lo = wI x n /\ (ntOf (BA x.c).c.ns n).s.hi = wM x n) /\ ((uI x a /\ (gD x.l a).a <
 (↑(Ij x) : Int)) /\ 0 <= (gD x.l a).b /\ (gD x.l a).b < (↑(Ij x) : Int)) /\ (Ou x <= 40 /\ Ij x <= 20) /\ ∀ (i : Nat), wK i x -> 0 <= Wr x i /\ Wr x i < (↑(Ou x) :
 Int)) /\ bif !Xp (Cht.mk (BA x.c).c.p (BA x.c).c.base (BA x.c).c.scale (BA x.c).c.off (hG x) (Pf x)) (gD x.l a) then uK x else (uI x a /\ (gD x.l a).a < (↑x.c.ns.length : Int)) /\
 (∃ (a_2 : IJ), (ZF x a_2 = (gD x.c.ns (gD x.l a).a.toNat).mi /\ x.m = x.m /\ Dy x /\ Dz x /\ fA /\ Dy x /\ Dz x /\ fN x /\ (↑a_2.i : Int) = (↑a : Int) /\ dM x /\ eL x /\
 x.c.base = x.c.base /\ x.c.scale = x.c.scale /\ x.c.off = x.c.off /\ eD x /\ eU x /\ dZ x /\ fD x /\ Ov x /\ Nv x /\ Nm x /\ Pg x /\ Nn x /\ fX x /\
 fW x /\ iD x /\ gJ x /\ Dw /\ gH = gH /\ jB x /\ Om x /\ iQ x /\ eC /\ (∀ (i : Nat), i < 40 -> mtG x a_2.i a_2.j i = mtF x a i) /\ (gD x.l a_2.i).a = (gD x.l a).a /\
 (gD x.l a_2.i).b = (gD x.l a).b) /\ gS a_2 x a) /\ ∀ (a_2 : IJ), gS a_2 x a -> (0 <= (gD x.l a_2.i).b /\ (gD x.l a_2.i).b < (↑x.c.ns.length : Int)) /\ bif decide (ZF x a_2 < (gD x.c.ns (gD x.l
 a_2.i).b.toNat).mi) then tV x a_2 /\ bif mtG x a_2.i a_2.j (gZ x a_2) then uK x else tV x a_2 /\ ∃ (a_4 : IJ), (ZF x a_4 = IntKind.i64.wrap (ZF x a_2 + 1) /\ x.m = x.m /\
 Dy x /\ Dz x /\ fA /\ Dy x /\ Dz x /\ fN x /\ (↑a_4.i : Int) = (↑a_2.i : Int) /\ dM x /\ eL x /\ x.c.base = x.c.base /\ x.c.scale = x.c.scale /\ x.c.off = x.c.off /\ eD x
 /\ eU x /\ dZ x /\ fD x /\ Ov x /\ Nv x /\ Nm x /\ Pg x /\ Nn x /\ fX x /\ fW x /\ iD x /\ gJ x /\ Dw /\ gH = gH /\ jB x /\
 Om x /\ iQ x /\ eC /\ (∀ (i : Nat), i < 40 -> mtG x a_4.i a_4.j i = bif decide (i = gZ x a_2) then true else mtG x a_2.i a_2.j i) /\ (gD x.l a_4.i).a = (gD x.l a_2.i).a /\ (gD x.l a_4.i).b = (gD
 x.l a_2.i).b) /\ gS a_4 x a /\ vL a_4 < vL a_2 else ∃ (a_4 : Nat), (x.m = x.m /\ Dy x /\ Dz x /\ fA /\ Dy x /\ Dz x /\ fN x /\ (↑a_4 : Int) = IntKind.i64.wrap
 ((↑a_2.i : Int) + 1) /\ dM x /\ eL x /\ x.c.base = x.c.base /\ x.c.scale = x.c.scale /\ x.c.off = x.c.off /\ eD x /\ eU x /\ dZ x /\ fD x /\ Ov x /\ Nv x /\ Nm x /\
 Pg x /\ Nn x /\ fX x /\ fW x /\ iD x /\ gJ x /\ Dw /\ gH = gH /\ jB x /\ Om x /\ iQ x /\ eC /\ ∀ (i : Nat), i < 40 -> mtF x a_4 i = mtG x a_2.i
 a_2.j i) /\ gQ a_4 x /\ gR x a_4 < gR x a else (Na x).fst = decide ((↑x.l.length : Int) >= x.m) /\ tT x) := by kernel_rfl
def AXE : Ann := ann 71 [(ZZ, C_openX.spec kM)]
def AWW (x : Prv) : Prop := CH Try.prog AXE kX (AH kX) (xPrv x) (AB []) (.tup [.bool false, .int (AM x.c)]) [] [] []
abbrev Ym:=Prv.c
attribute [go_sem] Ym
theorem BFL (x : Prv) : (AWW x) = (And (ZP (Ym x) (Ym x) (UE (Ym x) (BO (Ym x)) (Ym x) (Ym x) (Gm (Ym x) (Ym x)) (RO (WV (Ym x))))) (DZ (JZ (WV (Ym x))) Az (Hs (Ym x) (WV (Ym x))) (DZ (XX (YC (Prv.l x)) 40) Az (Hs (Ym x) 3) JV))) := by kernel_rfl
theorem BJP {c : Cht} {p : Pr} (hn : c.ns.length < 1073741824) (h : Xo c p = true) : ((0 <= p.a /\ p.a < c.ns.length) /\ 0 <= p.b /\ p.b < c.ns.length) /\ (nA c p).mi < (nB c p).mi := by
 unfold Xo at h
 cases hq : V8 c.ns.length p with
 | false => rw [hq] at h; cases h
 | true =>
  rw [hq] at h
  have h : (bif (!(p.a == p.b && p.b == p.a)) then decide ((nA c p).mi < (nB c p).mi) else false) = true := h
  unfold V8 wr KT at hq
  rw [Bc (by omega) (by omega)] at hq
  simp only [Bool.and_eq_true, decide_eq_true_eq] at hq
  refine ⟨⟨by omega, by omega⟩, ?_⟩
  cases hb : (!(p.a == p.b && p.b == p.a)) with
  | false => rw [hb] at h; cases h
  | true => rw [hb] at h; exact of_decide_eq_true h
theorem APQ {x : Prv} : ∀ {m k : Nat}, k <= m -> pvK x m = true -> pvK x k = true
 | 0, k, h, hm => by
  obtain rfl : k = 0 := by omega
  rfl
 | m + 1, k, h, hm => by
  by_cases hk : k = m + 1
  ·subst hk; exact hm
  ·have h2 : (pvK x m && Xp x.c (gD x.l m) && !B5 (mtF x m) (Zg x m).toNat (pvB x m - Zg x m).toNat) = true := hm
   rw [Bool.and_eq_true, Bool.and_eq_true] at h2
   exact APQ (by omega) h2.1.1
theorem BBY {f : Nat -> Bool} {a : Nat} : ∀ {m k : Nat}, k <= m -> B5 f a k = true -> B5 f a m = true
 | 0, k, h, hm => by
  obtain rfl : k = 0 := by omega
  exact hm
 | m + 1, k, h, hm => by
  by_cases hk : k = m + 1
  ·subst hk; exact hm
  ·show (B5 f a m || f (a + m)) = true
   rw [BBY (show k <= m by omega) hm]; rfl
theorem AVZ {x : Prv} (h1 : ¬(x.l.length : Int) > 40) (h2 : (x.l.all λ p => Xo x.c p) = true) {k : Nat} (hk : k < x.l.length) (h3 : pvK x (k + 1) = false) : (Na x).1 = false /\ (Na x).2 = 0 := by
 have h : pvK x x.l.length = false := by
  cases hq : pvK x x.l.length with
  | false => rfl
  | true => rw [APQ (show k + 1 <= x.l.length from hk) hq] at h3; cases h3
 unfold Na; rw [decide_eq_false h1, h2, h]; exact ⟨rfl, rfl⟩
theorem BTI (x : Prv) (h1 : x.c.ms.length < 4611686018427387904 /\ x.c.ns.length < 4611686018427387904 /\ x.l.length < 4611686018427387904) (h0 : AM x.c = 0) : BIO x := by
 have hl := IX h0
 have hs := Qu h0
 have hM := BOX hs.1
 rw [BLU]; delta dM eL wR wO AFB xP yD yP ABK AFJ I4 rD pU L8 G9 Nx qB qD T3 oJ O7 fL D2 fO L7 dY T5 D9 Vm qS rG pI M6 J0 pO E3 oT dQ Vg fB Vd dP pF M8 oX T2 Q2 B6 oO U7 qH P3 O1 J7 qY E5 oQ Dw H5 oP rN zP qR G2 qM qI C8 F8 L4 pE U2 pJ A9 M9 Q7 pM Q4 qE Dy J2 zV Dz fA fN eD eU dZ fD pK Vi Vn pS Vf A5 Vl Vk zY Uz Vh eC gQ wG Ov Nv Nm Pg Nn hG Ou vO wA uP Pf Ij wK jR Wr uR vD tW tR vV uF tN Om jJ vB uB uN uO vN wI wM uI tT uK ZF fX fW iD gJ jB iQ gR gS gZ tV vL; simp only [CC, eq_self, implies_true, forall_const, CU, D1, Rz, API, AFC, BNK]
 refine ⟨⟨⟨h1.1, h1.2.1⟩, h0⟩, λ hc => ?_, λ hc => ⟨⟨h1.2.2, by omega⟩, λ ha => ?_, λ ha => ⟨rfl, ⟨0, ⟨rfl, λ _ _ => rfl⟩, Nat.zero_le _, rfl⟩, ?_⟩⟩⟩
 ·unfold Na; rw [decide_eq_true hc]; exact ⟨rfl, rfl⟩
 ·unfold Na; rw [decide_eq_false hc, ha]; exact ⟨rfl, rfl⟩
 ·rintro k ⟨hk, hp⟩
  have hP : ∀ k, k < x.l.length -> _ := λ k hk => BJP (by omega) (List.all_eq_true.1 ha _ (TY hk))
  have mA : ∀ k, k < x.l.length -> 0 <= Zg x k /\ Zg x k < x.c.ms.length := λ k hk => hM _ (by have := (hP k hk).1; omega)
  have mB : ∀ k, k < x.l.length -> 0 <= pvB x k /\ pvB x k < x.c.ms.length := λ k hk => hM _ (by have := (hP k hk).1; omega)
  have mL : ∀ k, k < x.l.length -> Zg x k < pvB x k := λ k hk => (hP k hk).2
  have eB : ∀ k, (gD x.c.ns (gD x.l k).b.toNat).mi = pvB x k := λ _ => rfl
  have eA : ∀ k, (gD x.c.ns (gD x.l k).a.toNat).mi = Zg x k := λ _ => rfl
  refine ⟨λ hlt => ⟨⟨by omega, by omega⟩, ⟨(hP k (by omega)).1, ⟨hl.2.1.2, hl.2.2⟩, hM⟩, λ hL => ?_, λ hL => ⟨(hP k (by omega)).1.1, ⟨⟨k, 0⟩, ⟨by rw [eA]; show Zg x k + ((0 : Nat) : Int) = _; omega, rfl, λ i hi => ?_, rfl, rfl⟩, ⟨by show k < _; omega, rfl⟩, ⟨hp, hL⟩, by have := mL k (by omega); show Zg x k + ((0 : Nat) : Int) <= pvB x k; omega, rfl⟩, ?_⟩⟩, λ hge => ?_⟩
  ·refine AVZ hc ha (k := k) (by omega) ?_
   show (pvK x k && Xp x.c (gD x.l k) && _) = false
   rw [hL]; simp
  ·show (mtF x k i || (decide (Zg x k <= i) && decide ((i : Int) < Zg x k + ((0 : Nat) : Int)))) = mtF x k i
   rw [show (decide (Zg x k <= i) && decide ((i : Int) < Zg x k + ((0 : Nat) : Int))) = false by simp, Bool.or_false]
  ·rintro ⟨i, j⟩ ⟨⟨y1, y2⟩, ⟨y3, y4⟩, y5, y6⟩
   dsimp only at y1 y2 y3 y4 y5 y6 ⊢
   simp only [eB]
   have a1 := mA i y1
   have b1 := mB i y1
   have l1 := mL i y1
   have e : (Zg x i + (j : Int)).toNat = (Zg x i).toNat + j := by omega
   have eG : mtG x i j ((Zg x i).toNat + j) = mtF x i ((Zg x i).toNat + j) := by
    show (mtF x i _ || (decide (Zg x i <= _) && decide (_ < Zg x i + (j : Int)))) = _
    rw [decide_eq_false (show ¬(((Zg x i).toNat + j : Nat) : Int) < Zg x i + (j : Int) by omega), Bool.and_false, Bool.or_false]
   refine ⟨(hP i y1).1.2, λ hb => ⟨⟨⟨by omega, by omega⟩, by omega⟩, λ hm => ?_, λ hm => ⟨⟨⟨by omega, by omega⟩, by omega⟩, ⟨i, j + 1⟩, ⟨?_, rfl, λ t ht => ?_, rfl, rfl⟩, ⟨⟨y1, y2⟩, ⟨y3, y4⟩, by show Zg x i + ((j + 1 : Nat) : Int) <= pvB x i; omega, ?_⟩, by show 50 - (j + 1) < _; omega⟩⟩, λ hb => ⟨i + 1, ⟨by rw [Bc (by omega) (by omega)]; rfl, λ t ht => ?_⟩, ⟨by omega, ?_⟩, by omega⟩⟩
   ·rw [e, eG] at hm
    refine AVZ hc ha (k := i) y1 ?_
    have h9 : B5 (mtF x i) (Zg x i).toNat (j + 1) = true := by
     show (B5 _ _ _ || _) = true
     rw [hm, Bool.or_true]
    show (pvK x i && Xp x.c (gD x.l i) && !B5 _ _ _) = false
    rw [BBY (show j + 1 <= (pvB x i - Zg x i).toNat by omega) h9]; simp
   ·show Zg x i + ((j + 1 : Nat) : Int) = _
    rw [Bc (by omega) (by omega)]; omega
   ·show (mtF x i t || (decide (Zg x i <= t) && decide ((t : Int) < Zg x i + ((j + 1 : Nat) : Int)))) = bif _ then true else (mtF x i t || (decide (Zg x i <= t) && decide ((t : Int) < Zg x i + (j : Int))))
    rw [e]
    by_cases h7 : t = (Zg x i).toNat + j
    ·rw [decide_eq_true h7, decide_eq_true (show Zg x i <= t by omega), decide_eq_true (show (t : Int) < Zg x i + ((j + 1 : Nat) : Int) by omega)]; simp
    ·rw [decide_eq_false h7]
     show _ = (mtF x i t || _)
     congr 2
     exact decide_eq_decide.2 (by omega)
   ·rw [e, eG] at hm
    show (B5 _ _ _ || _) = false
    rw [y6, hm]; rfl
   ·have e3 : Zg x i + (j : Int) = pvB x i := by omega
    show (mtF x i t || _) = (mtF x i t || (decide (Zg x i <= t) && decide ((t : Int) < Zg x i + (j : Int))))
    rw [e3]
   ·have e3 : (pvB x i - Zg x i).toNat = j := by omega
    show (pvK x i && Xp x.c (gD x.l i) && !B5 _ _ _) = true
    rw [e3, y3, y4, y6]; rfl
  ·have e : k = x.l.length := by omega
   subst e
   unfold Na; rw [decide_eq_false hc, ha, hp]; exact ⟨by simp, rfl⟩
theorem BIW : AJ Try.prog ADV (C_prov.spec dPrv) := okT C_prov (λ (x : Prv) h => by
 have h1 : x.c.ms.length < 4611686018427387904 /\ x.c.ns.length < 4611686018427387904 /\ x.l.length < 4611686018427387904 := h
 by_cases h0 : AM x.c = 0
 ·have e : C_prov.val x = .tup [.bool (Na x).1, .int (Na x).2] := by
   show AVal.tup [.bool (W5 x).1, .int (W5 x).2] = _
   unfold W5; rw [h0]; rfl
  rw [e]
  exact Hp (A := BBS x) (L := []) (keep := []) (ren := []) (fz := []) AIO (by kernel_rfl) (AA zB (AA BXA (AA AVX AC))) (BTI x h1 h0)
 ·have h0' : (AM x.c == 0) = false := by simpa using h0
  have e : C_prov.val x = .tup [.bool false, .int (AM x.c)] := by
   show AVal.tup [.bool (W5 x).1, .int (W5 x).2] = _
   unfold W5; rw [h0']; rfl
  rw [e]
  refine Hp (A := AXE) (L := []) (keep := []) (ren := []) (fz := []) AIO (by kernel_rfl) (AA yN AC) ?_
  show AWW x; rw [BFL]<;> delta KH ZR BG BJ EC ES ET BW AD BU CL AR BZ EK EJ GW EX HP HN HJ GT GB HC DU GG FE JW JM PW NJ JV Jf YC Ym AE CR FA BB GA AF AY AU AG EM EZ FD AX FC BM CJ AK AN DD BH HX BY BP CX HZ BN CY BS CE FU AV DA AQ AZ LX DQ CP FT AS AP ID AT EG CM HV DT EL FV DK EP HW DB FN FM DZ EA FQ BE FO FZ GH IC BO CS EE BL HM JZ MD XX Hs WV Az Ch Fc RO XQ Oa ZP Gm UE; simp only [CC, eq_self, implies_true, forall_const, CU]
  simp [h1, h0]) _
end Go.Bal
