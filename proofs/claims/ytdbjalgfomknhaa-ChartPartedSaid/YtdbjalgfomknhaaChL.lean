/- Package chart: Late, Proves. -/
import Derived.Test.YtdbjalgfomknhaaChK
set_option linter.unusedVariables false
set_option linter.unusedSimpArgs false
namespace Go.Bal
open Go Go.Sym Go.Proofs
structure Prv where
 c : Cht
 m : Int
 l : List Pr
def dPrv : List AVal -> Heap -> Option (Prv × List (Nat × Nat) × List Nat)
 | [x, .d m, y], H => match BWE x H, wI y H with
  | some (c, f), some (n, g, e) => some (⟨c, CK m, AE n λ i => dPr (g i)⟩, [], f ++ e)
  | _, _ => none
 | _, _ => none
def xPrv (x : Prv) : List AVal := [.d (XX x.c), .int x.m, .d (Cf x.l)]
def UP (x : Prv) (k : Nat) : Int := (nA x.c (gD x.l k)).mi
def pvB (x : Prv) (k : Nat) : Int := (nB x.c (gD x.l k)).mi
def mtF (x : Prv) : Nat -> Nat -> Bool
 | 0, _ => false
 | k + 1, i => mtF x k i || (decide (UP x k <= i) && decide ((i : Int) < pvB x k))
def hitJ (f : Nat -> Bool) (a : Nat) : Nat -> Bool
 | 0 => false
 | j + 1 => hitJ f a j || f (a + j)
def pvK (x : Prv) : Nat -> Bool
 | 0 => true
 | k + 1 => pvK x k && PI x.c (gD x.l k) && !hitJ (mtF x k) (UP x k).toNat (pvB x k - UP x k).toNat
def LL (x : Prv) : Bool × Int := bif decide ((x.l.length : Int) > 40) then (false, 3) else bif !(x.l.all λ p => HX x.c p) then (false, 2) else (pvK x x.l.length && decide ((x.l.length : Int) >= x.m), 0)
def ALY (x : Prv) : Bool × Int := bif AK x.c == 0 then LL x else (false, AK x.c)
def C_prov : Ctr := { α := Prv, xs := xPrv, val := λ x => .tup [.bool (ALY x).1, .int (ALY x).2], keep := λ _ => [], pre := λ x => [x.c.ms.length < 4611686018427387904 /\ x.c.ns.length < 4611686018427387904 /\ x.l.length < 4611686018427387904] }
def pvS (x : Prv) (k : Nat) : List (Nat × AVal) := [(1, .int x.m), (2, .d (Cf x.l)), (3, .bptr 201 0), (8, .bptr 203 0), (10, .rptr 205 1 0 0), (33, .d (Cf x.l)), (34, .int x.l.length), (35, .int k)]
def pvH (x : Prv) (f : Nat -> Bool) : List (Nat × HCell) := [(201, .live (chB x.c)), (203, .live (dkB (AH x.c) 204)), (204, .live (dkM (AH x.c))), (205, .live (.row 1 40 λ i => .v (.bool (f i))))]
def pv10 (x : Prv) : Shape := { α := Nat, dflt := 0, T := λ k => ⟨pvS x k, pvH x (mtF x k)⟩, inv := λ k => k <= x.l.length /\ pvK x k = true, meas := λ k => x.l.length - k, first := [(201, 1000), (203, 2016), (204, 2017), (205, 9000)] }
def mtG (x : Prv) (k j : Nat) : Nat -> Bool := λ i => mtF x k i || (decide (UP x k <= i) && decide ((i : Int) < UP x k + j))
def pv15 (x : Prv) (m : Nat) : Shape := { α := IJ, dflt := default, T := λ s => ⟨[(12, .bptr 206 0), (13, .int (UP x s.i + s.j))] ++ pvS x s.i, pvH x (mtG x s.i s.j) ++ [(206, .live (.box [.int (gD x.l s.i).a, .int (gD x.l s.i).b]))]⟩, inv := λ s => (s.i < x.l.length /\ x.l.length - s.i = m) /\ (pvK x s.i = true /\ PI x.c (gD x.l s.i) = true) /\ (UP x s.i + s.j <= pvB x s.i /\ hitJ (mtF x s.i) (UP x s.i).toNat s.j = false), meas := λ s => 50 - s.j, first := [(206, 12032)] }
def CLV (x : Prv) : Ann := { ann 71 [(GR, C_open.spec dC1), (n_eP, C4Pp.spec d4Pp), (BQM, C_late.spec dDkP)] with loops := λ id => if id = 10 then some [pv10 x] else none, inner := λ gs id => if id = 15 then some [pv15 x (gs.getD 0 0)] else none }
def CIN (x : Prv) : Prop := AZ Try.prog (CLV x) Lz (AL Lz) (xPrv x) (AG []) (.tup [.bool (LL x).1, .int (LL x).2]) [] [] []
abbrev Bp (x : Prv) : Prop := x.c.p.lo = x.c.p.lo
abbrev YN (x : Prv) : Prop := x.c.p.hi = x.c.p.hi
abbrev zP (x : Prv) : List Mk := AE x.c.ms.length λ (i : Nat) => gD x.c.ms i
abbrev yU (x : Prv) : Nat := (zP x).length
abbrev BFY (x : Prv) (i : Nat) : Mk := gD (zP x) i
abbrev N5 (x : Prv) : List Nt := AE x.c.ns.length λ (i : Nat) => gD x.c.ns i
abbrev H5 (x : Prv) : Nat := (N5 x).length
abbrev uM (x : Prv) (i : Nat) : Nt := gD (N5 x) i
abbrev ARA (x : Prv) (i : Nat) : Span := (uM x i).t
abbrev AQP (x : Prv) (i : Nat) : Span := (uM x i).s
abbrev AET (x : Prv) : Cht := Cht.mk x.c.p x.c.base x.c.scale x.c.off (zP x) (N5 x)
abbrev Zx (x : Prv) : List Pr := AE x.l.length λ (i : Nat) => gD x.l i
abbrev dN (x : Prv) : Nat := (Zx x).length
abbrev X8 (x : Prv) (i : Nat) : Pr := gD (Zx x) i
abbrev Y6 (x : Prv) : Dk := AH (AET x)
abbrev MN (x : Prv) : Cht := (Y6 x).c
abbrev Yq (x : Prv) : Span := (MN x).p
abbrev cH (x : Prv) : Int := (Yq x).lo
abbrev AHS (x : Prv) : Prop := cH x = cH x
abbrev Zt (x : Prv) : Int := (Yq x).hi
abbrev AAY (x : Prv) : Prop := Zt x = Zt x
abbrev Cp (x : Prv) : Int := (MN x).base
abbrev AHF (x : Prv) : Prop := Cp x = Cp x
abbrev YO (x : Prv) : Int := (MN x).scale
abbrev AAM (x : Prv) : Prop := YO x = YO x
abbrev Bi (x : Prv) : Int := (MN x).off
abbrev AKE (x : Prv) : Prop := Bi x = Bi x
abbrev AKS (x : Prv) : List Mk := (MN x).ms
abbrev QJ (x : Prv) : Nat := (AKS x).length
abbrev Xk (x : Prv) (i : Nat) : Mk := gD (AKS x) i
abbrev cX (x : Prv) : List Mk := AE (QJ x) λ (i : Nat) => Xk x i
abbrev cL (x : Prv) : Nat := (cX x).length
abbrev AFX (x : Prv) (i : Nat) : Mk := gD (cX x) i
abbrev Z6 (x : Prv) (i : Nat) : Int := (AFX x i).pl
abbrev bA (x : Prv) (i : Nat) : Int := (Xk x i).pl
abbrev AHV (x : Prv) (i : Nat) : Int := (AFX x i).ht
abbrev cQ (x : Prv) (i : Nat) : Int := (Xk x i).ht
abbrev YG (x : Prv) : List Nt := (MN x).ns
abbrev RI (x : Prv) : Nat := (YG x).length
abbrev ZI (x : Prv) (i : Nat) : Nt := gD (YG x) i
abbrev QY (x : Prv) : List Nt := AE (RI x) λ (i : Nat) => ZI x i
abbrev Ck (x : Prv) : Nat := (QY x).length
abbrev bE (x : Prv) (i : Nat) : Nt := gD (QY x) i
abbrev ABY (x : Prv) (i : Nat) : Int := (bE x i).mi
abbrev dS (x : Prv) (i : Nat) : Int := (ZI x i).mi
abbrev ADH (x : Prv) (i : Nat) : Span := (bE x i).t
abbrev ABB (x : Prv) (i : Nat) : Int := (ADH x i).lo
abbrev AHJ (x : Prv) (i : Nat) : Span := (ZI x i).t
abbrev bH (x : Prv) (i : Nat) : Int := (AHJ x i).lo
abbrev AFI (x : Prv) (i : Nat) : Int := (ADH x i).hi
abbrev Zf (x : Prv) (i : Nat) : Int := (AHJ x i).hi
abbrev ACK (x : Prv) (i : Nat) : Span := (bE x i).s
abbrev AFV (x : Prv) (i : Nat) : Int := (ACK x i).lo
abbrev ACO (x : Prv) (i : Nat) : Span := (ZI x i).s
abbrev Xq (x : Prv) (i : Nat) : Int := (ACO x i).lo
abbrev S3 (x : Prv) (i : Nat) : Int := (ACK x i).hi
abbrev aM (x : Prv) (i : Nat) : Int := (ACO x i).hi
abbrev IL : Prop := ∀ (i : Nat), i < 40 -> false = false
abbrev AJI (x : Prv) (n : Int) : Bool := hasN (QY x) n
abbrev Zm (x : Prv) (n : Int) : Bool := hasN (YG x) n
abbrev bT (x : Prv) (n : Int) : Int := (Y6 x).st n
abbrev S8 (x : Prv) : Prop := ∀ (n : Int), bT x n = bT x n
abbrev Wv (x : Prv) (n : Int) : Nt := ntOf (QY x) n
abbrev S2 (x : Prv) (n : Int) : Int := (Wv x n).mi
abbrev aL (x : Prv) (n : Int) : Nt := ntOf (YG x) n
abbrev Xn (x : Prv) (n : Int) : Int := (aL x n).mi
abbrev AFE (x : Prv) (n : Int) : Span := (Wv x n).t
abbrev AKA (x : Prv) (n : Int) : Int := (AFE x n).lo
abbrev ABQ (x : Prv) (n : Int) : Span := (aL x n).t
abbrev bJ (x : Prv) (n : Int) : Int := (ABQ x n).lo
abbrev ABG (x : Prv) (n : Int) : Int := (AFE x n).hi
abbrev Yg (x : Prv) (n : Int) : Int := (ABQ x n).hi
abbrev AKV (x : Prv) (n : Int) : Span := (Wv x n).s
abbrev ABL (x : Prv) (n : Int) : Int := (AKV x n).lo
abbrev AEQ (x : Prv) (n : Int) : Span := (aL x n).s
abbrev Yl (x : Prv) (n : Int) : Int := (AEQ x n).lo
abbrev ACX (x : Prv) (n : Int) : Int := (AKV x n).hi
abbrev dT (x : Prv) (n : Int) : Int := (AEQ x n).hi
abbrev IR (x : Prv) : Prop := x.l.length = x.l.length
abbrev ACS (x : Prv) (i : Nat) : Prop := (gD x.l i).a = (gD x.l i).a
abbrev V3 (x : Prv) (i : Nat) : Prop := (gD x.l i).b = (gD x.l i).b
abbrev IT (x : Prv) : Prop := ∀ (i : Nat), i < x.l.length -> ACS x i /\ V3 x i
abbrev Aj : Prop := 0 = 0
abbrev YR (x : Prv) : Prop := (↑x.l.length : Int) = (↑x.l.length : Int)
abbrev ZZ (x : Prv) : Prop := x.c.ms.length = x.c.ms.length
abbrev ZE (x : Prv) : Prop := ∀ (i : Nat), i < x.c.ms.length -> (gD x.c.ms i).pl = (gD x.c.ms i).pl /\ (gD x.c.ms i).ht = (gD x.c.ms i).ht
abbrev Ax (x : Prv) : Prop := x.c.ns.length = x.c.ns.length
abbrev YQ (x : Prv) : Prop := ∀ (i : Nat), i < x.c.ns.length -> (gD x.c.ns i).mi = (gD x.c.ns i).mi /\ (gD x.c.ns i).t.lo = (gD x.c.ns i).t.lo /\ (gD x.c.ns i).t.hi = (gD x.c.ns i).t.hi /\ (gD x.c.ns i).s.lo = (gD
 x.c.ns i).s.lo /\ (gD x.c.ns i).s.hi = (gD x.c.ns i).s.hi
abbrev Wx (i : Nat) (x : Prv) : Prop := i < (AH x.c).c.ms.length
abbrev QZ (x : Prv) (i : Nat) : Int := (gD (AH x.c).c.ms i).pl
abbrev PX (x : Prv) (i : Nat) : Int := (gD (AH x.c).c.ms i).ht
abbrev aS (i : Nat) (x : Prv) : Prop := i < (AH x.c).c.ns.length
abbrev QS (x : Prv) (i : Nat) : Int := (gD (AH x.c).c.ns i).mi
abbrev AGJ (x : Prv) (i : Nat) : Span := (gD (AH x.c).c.ns i).t
abbrev QO (x : Prv) (i : Nat) : Int := (AGJ x i).lo
abbrev RA (x : Prv) (i : Nat) : Int := (AGJ x i).hi
abbrev ACQ (x : Prv) (i : Nat) : Span := (gD (AH x.c).c.ns i).s
abbrev QL (x : Prv) (i : Nat) : Int := (ACQ x i).lo
abbrev RK (x : Prv) (i : Nat) : Int := (ACQ x i).hi
abbrev ZC : Prop := 40 = 40
abbrev Ff (a : Nat) (x : Prv) : Prop := a <= x.l.length /\ pvK x a = true
abbrev rW (a : Nat) (x : Prv) : Prop := (↑a : Int) < (↑x.l.length : Int)
abbrev LO (x : Prv) : Prop := (AH x.c).c.p.lo = (AH x.c).c.p.lo
abbrev LU (x : Prv) : Prop := (AH x.c).c.p.hi = (AH x.c).c.p.hi
abbrev LN (x : Prv) : Prop := (AH x.c).c.base = (AH x.c).c.base
abbrev MJ (x : Prv) : Prop := (AH x.c).c.scale = (AH x.c).c.scale
abbrev MM (x : Prv) : Prop := (AH x.c).c.off = (AH x.c).c.off
abbrev Gk (x : Prv) : List Mk := AE (AH x.c).c.ms.length λ (i : Nat) => gD (AH x.c).c.ms i
abbrev MV (x : Prv) : Nat := (Gk x).length
abbrev rX (x : Prv) (i : Nat) : Mk := gD (Gk x) i
abbrev gQ (x : Prv) (i : Nat) : Int := (rX x i).pl
abbrev nN (x : Prv) (i : Nat) : Int := (rX x i).ht
abbrev MY (x : Prv) : List Nt := AE (AH x.c).c.ns.length λ (i : Nat) => gD (AH x.c).c.ns i
abbrev JJ (x : Prv) : Nat := (MY x).length
abbrev sS (i : Nat) (x : Prv) : Prop := i < JJ x
abbrev Hj (x : Prv) (i : Nat) : Nt := gD (MY x) i
abbrev UJ (x : Prv) (i : Nat) : Int := (Hj x i).mi
abbrev oP (x : Prv) (i : Nat) : Span := (Hj x i).t
abbrev iN (x : Prv) (i : Nat) : Int := (oP x i).lo
abbrev jL (x : Prv) (i : Nat) : Int := (oP x i).hi
abbrev kG (x : Prv) (i : Nat) : Span := (Hj x i).s
abbrev gU (x : Prv) (i : Nat) : Int := (kG x i).lo
abbrev iA (x : Prv) (i : Nat) : Int := (kG x i).hi
abbrev jQ (x : Prv) (n : Int) : Bool := hasN (MY x) n
abbrev MH (x : Prv) : Prop := ∀ (n : Int), (AH x.c).st n = (AH x.c).st n
abbrev Ep (x : Prv) (n : Int) : Nt := ntOf (MY x) n
abbrev oD (x : Prv) (n : Int) : Int := (Ep x n).mi
abbrev qA (x : Prv) (n : Int) : Span := (Ep x n).t
abbrev lR (x : Prv) (n : Int) : Int := (qA x n).lo
abbrev lZ (x : Prv) (n : Int) : Int := (qA x n).hi
abbrev nO (x : Prv) (n : Int) : Span := (Ep x n).s
abbrev mI (x : Prv) (n : Int) : Int := (nO x n).lo
abbrev gH (x : Prv) (n : Int) : Int := (nO x n).hi
abbrev nW (x : Prv) (a : Nat) : Prop := 0 <= (gD x.l a).a
abbrev lO (x : Prv) : Prop := (LL x).snd = 0
abbrev gW (x : Prv) : Prop := (LL x).fst = false /\ lO x
abbrev GN (x : Prv) (a : IJ) : Int := UP x a.i + (↑a.j : Int)
abbrev Hc (x : Prv) : Prop := (AH x.c).c.ms.length = (AH x.c).c.ms.length
abbrev It (x : Prv) : Prop := ∀ (i : Nat), Wx i x -> QZ x i = QZ x i /\ PX x i = PX x i
abbrev Hb (x : Prv) : Prop := (AH x.c).c.ns.length = (AH x.c).c.ns.length
abbrev Fa (x : Prv) : Prop := ∀ (i : Nat), aS i x -> QS x i = QS x i /\ QO x i = QO x i /\ RA x i = RA x i /\ QL x i = QL x i /\ RK x i = RK
 x i
abbrev Fo (x : Prv) : Prop := ∀ (n : Int), hasN (AH x.c).c.ns n = hasN (AH x.c).c.ns n
abbrev Hp (x : Prv) : Prop := ∀ (n : Int), (ntOf (AH x.c).c.ns n).mi = (ntOf (AH x.c).c.ns n).mi /\ (ntOf (AH x.c).c.ns n).t.lo = (ntOf (AH x.c).c.ns n).t.lo /\ (ntOf (AH x.c).c.ns n).t.hi = (ntOf (AH
 x.c).c.ns n).t.hi /\ (ntOf (AH x.c).c.ns n).s.lo = (ntOf (AH x.c).c.ns n).s.lo /\ (ntOf (AH x.c).c.ns n).s.hi = (ntOf (AH x.c).c.ns n).s.hi
abbrev Ek (x : Prv) (a : Nat) : Nat := x.l.length - a
abbrev Hf (a : IJ) (x : Prv) (a1 : Nat) : Prop := (a.i < x.l.length /\ x.l.length - a.i = Ek x a1) /\ (pvK x a.i = true /\ PI x.c (gD x.l a.i) = true) /\ GN x a <= pvB x a.i /\ hitJ (mtF x a.i) (UP
 x a.i).toNat a.j = false
abbrev Ge (x : Prv) (a : IJ) : Nat := (GN x a).toNat
abbrev sV (x : Prv) (a : IJ) : Prop := (0 <= GN x a /\ GN x a < (↑40 : Int)) /\ (Ge x a).succ.le 40
abbrev kY (a : IJ) : Nat := 50 - a.j
theorem CPL (x : Prv) : (CIN x) = ((Bp x /\ YN x /\ x.c.base = x.c.base /\ x.c.scale = x.c.scale /\ x.c.off = x.c.off /\ yU x = x.c.ms.length /\ (∀ (i : Nat), i < yU x -> (BFY x i).pl = (gD
 x.c.ms i).pl /\ (BFY x i).ht = (gD x.c.ms i).ht) /\ H5 x = x.c.ns.length /\ (∀ (i : Nat), i < H5 x -> (uM x i).mi = (gD x.c.ns i).mi /\ (ARA x i).lo = (gD x.c.ns i).t.lo /\ (ARA x i).hi = (gD
 x.c.ns i).t.hi /\ (AQP x i).lo = (gD x.c.ns i).s.lo /\ (AQP x i).hi = (gD x.c.ns i).s.hi) /\ (yU x < 4611686018427387904 /\ H5 x < 4611686018427387904) /\ AK (AET x) = 0) /\ bif decide
 ((↑x.l.length : Int) > 40) then (LL x).fst = false /\ (LL x).snd = 3 else (dN x = x.l.length /\ (∀ (i : Nat), i < dN x -> (X8 x i).a = (gD x.l i).a /\ (X8 x i).b = (gD x.l i).b) /\ AHS
 x /\ AAY x /\ AHF x /\ AAM x /\ AKE x /\ cL x = QJ x /\ (∀ (i : Nat), i < cL x -> Z6 x i = bA x i /\ AHV x i = cQ x i) /\ Ck x = RI x /\ (∀ (i :
 Nat), i < Ck x -> ABY x i = dS x i /\ ABB x i = bH x i /\ AFI x i = Zf x i /\ AFV x i = Xq x i /\ S3 x i = aM x i) /\ IL /\ AT = AT /\ (∀ (n :
 Int), AJI x n = Zm x n) /\ S8 x /\ (∀ (n : Int), S2 x n = Xn x n /\ AKA x n = bJ x n /\ ABG x n = Yg x n /\ ABL x n = Yl x n /\ ACX x n = dT
 x n) /\ AHS x /\ AAY x /\ AHF x /\ AAM x /\ AKE x /\ QJ x = cL x /\ (∀ (i : Nat), i < QJ x -> bA x i = Z6 x i /\ cQ x i = AHV x i) /\ RI x =
 Ck x /\ (∀ (i : Nat), i < RI x -> dS x i = ABY x i /\ bH x i = ABB x i /\ Zf x i = AFI x i /\ Xq x i = AFV x i /\ aM x i = S3 x i) /\ IL /\
 AT = AT /\ (∀ (n : Int), Zm x n = AJI x n) /\ S8 x /\ (∀ (n : Int), Xn x n = S2 x n /\ bJ x n = AKA x n /\ Yg x n = ABG x n /\ Yl x n = ABL x n /\
 dT x n = ACX x n) /\ dN x < 4611686018427387904 /\ Ck x < 1073741824) /\ bif !(Zx x).all λ (x_1 : Pr) => HX (Cht.mk (Yq x) (Cp x) (YO x) (Bi x) (cX
 x) (QY x)) x_1 then (LL x).fst = false /\ (LL x).snd = 2 else (Value.agg #[Value.bool false, Value.bool false, Value.bool false, Value.bool false, Value.bool false, Value.bool false, Value.bool false,
 Value.bool false, Value.bool false, Value.bool false, Value.bool false, Value.bool false, Value.bool false, Value.bool false, Value.bool false, Value.bool false, Value.bool false, Value.bool false, Value.bool false,
 Value.bool false, Value.bool false, Value.bool false, Value.bool false, Value.bool false, Value.bool false, Value.bool false, Value.bool false, Value.bool false, Value.bool false, Value.bool false, Value.bool false,
 Value.bool false, Value.bool false, Value.bool false, Value.bool false, Value.bool false, Value.bool false, Value.bool false, Value.bool false, Value.bool false]).cells.toList = (List.replicate 40 (Value.bool
 false).cells.toList).flatten /\ (∃ (a : Nat), (x.m = x.m /\ IR x /\ IT x /\ Aj /\ IR x /\ IT x /\ YR x /\ (↑a : Int) = 0 /\ Bp x /\ YN x /\ x.c.base = x.c.base /\ x.c.scale =
 x.c.scale /\ x.c.off = x.c.off /\ ZZ x /\ ZE x /\ Ax x /\ YQ x /\ (AH x.c).c.p.lo = cH x /\ (AH x.c).c.p.hi = Zt x /\ (AH x.c).c.base = Cp x /\ (AH x.c).c.scale = YO
 x /\ (AH x.c).c.off = Bi x /\ (AH x.c).c.ms.length = QJ x /\ (∀ (i : Nat), Wx i x -> QZ x i = bA x i /\ PX x i = cQ x i) /\ (AH x.c).c.ns.length = RI x /\ (∀ (i :
 Nat), aS i x -> QS x i = dS x i /\ QO x i = bH x i /\ RA x i = Zf x i /\ QL x i = Xq x i /\ RK x i = aM x i) /\ IL /\ AT = AT /\ (∀ (n : Int),
 hasN (AH x.c).c.ns n = Zm x n) /\ (∀ (n : Int), (AH x.c).st n = bT x n) /\ (∀ (n : Int), (ntOf (AH x.c).c.ns n).mi = Xn x n /\ (ntOf (AH x.c).c.ns n).t.lo = bJ x n /\ (ntOf (AH x.c).c.ns
 n).t.hi = Yg x n /\ (ntOf (AH x.c).c.ns n).s.lo = Yl x n /\ (ntOf (AH x.c).c.ns n).s.hi = dT x n) /\ ZC /\ ∀ (i : Nat), i < 40 -> mtF x a i = false) /\ Ff a x) /\ ∀ (a : Nat), Ff
 a x -> bif decide (rW a x) then (0 <= (↑a : Int) /\ rW a x) /\ (ACS x a /\ V3 x a /\ LO x /\ LU x /\ LN x /\ MJ x /\ MM x /\ MV x = (AH x.c).c.ms.length
 /\ (∀ (i : Nat), i < MV x -> gQ x i = QZ x i /\ nN x i = PX x i) /\ JJ x = (AH x.c).c.ns.length /\ (∀ (i : Nat), sS i x -> UJ x i = QS x i /\ iN x i
 = QO x i /\ jL x i = RA x i /\ gU x i = QL x i /\ iA x i = RK x i) /\ IL /\ AT = AT /\ (∀ (n : Int), jQ x n = hasN (AH x.c).c.ns n) /\ MH x /\ (∀ (n
 : Int), oD x n = (ntOf (AH x.c).c.ns n).mi /\ lR x n = (ntOf (AH x.c).c.ns n).t.lo /\ lZ x n = (ntOf (AH x.c).c.ns n).t.hi /\ mI x n = (ntOf (AH x.c).c.ns n).s.lo /\ gH x n =
 (ntOf (AH x.c).c.ns n).s.hi) /\ LO x /\ LU x /\ LN x /\ MJ x /\ MM x /\ (AH x.c).c.ms.length = MV x /\ (∀ (i : Nat), Wx i x -> QZ x i = gQ x i /\ PX
 x i = nN x i) /\ (AH x.c).c.ns.length = JJ x /\ (∀ (i : Nat), aS i x -> QS x i = UJ x i /\ QO x i = iN x i /\ RA x i = jL x i /\ QL x i = gU
 x i /\ RK x i = iA x i) /\ IL /\ AT = AT /\ (∀ (n : Int), hasN (AH x.c).c.ns n = jQ x n) /\ MH x /\ (∀ (n : Int), (ntOf (AH x.c).c.ns n).mi = oD x n /\ (ntOf (AH x.c).c.ns
 n).t.lo = lR x n /\ (ntOf (AH x.c).c.ns n).t.hi = lZ x n /\ (ntOf (AH x.c).c.ns n).s.lo = mI x n /\ (ntOf (AH x.c).c.ns n).s.hi = gH x n) /\ ((nW x a /\ (gD x.l a).a <
 (↑(JJ x) : Int)) /\ 0 <= (gD x.l a).b /\ (gD x.l a).b < (↑(JJ x) : Int)) /\ (MV x <= 40 /\ JJ x <= 20) /\ ∀ (i : Nat), sS i x -> 0 <= UJ x i /\ UJ x i < (↑(MV x) :
 Int)) /\ bif !PI (Cht.mk (AH x.c).c.p (AH x.c).c.base (AH x.c).c.scale (AH x.c).c.off (Gk x) (MY x)) (gD x.l a) then gW x else (nW x a /\ (gD x.l a).a < (↑x.c.ns.length : Int)) /\
 (∃ (a_2 : IJ), (GN x a_2 = (gD x.c.ns (gD x.l a).a.toNat).mi /\ x.m = x.m /\ IR x /\ IT x /\ Aj /\ IR x /\ IT x /\ YR x /\ (↑a_2.i : Int) = (↑a : Int) /\ Bp x /\ YN x /\
 x.c.base = x.c.base /\ x.c.scale = x.c.scale /\ x.c.off = x.c.off /\ ZZ x /\ ZE x /\ Ax x /\ YQ x /\ LO x /\ LU x /\ LN x /\ MJ x /\ MM x /\ Hc x /\
 It x /\ Hb x /\ Fa x /\ IL /\ AT = AT /\ Fo x /\ MH x /\ Hp x /\ ZC /\ (∀ (i : Nat), i < 40 -> mtG x a_2.i a_2.j i = mtF x a i) /\ (gD x.l a_2.i).a = (gD x.l a).a /\
 (gD x.l a_2.i).b = (gD x.l a).b) /\ Hf a_2 x a) /\ ∀ (a_2 : IJ), Hf a_2 x a -> (0 <= (gD x.l a_2.i).b /\ (gD x.l a_2.i).b < (↑x.c.ns.length : Int)) /\ bif decide (GN x a_2 < (gD x.c.ns (gD x.l
 a_2.i).b.toNat).mi) then sV x a_2 /\ bif mtG x a_2.i a_2.j (Ge x a_2) then gW x else sV x a_2 /\ ∃ (a_4 : IJ), (GN x a_4 = IntKind.i64.wrap (GN x a_2 + 1) /\ x.m = x.m /\
 IR x /\ IT x /\ Aj /\ IR x /\ IT x /\ YR x /\ (↑a_4.i : Int) = (↑a_2.i : Int) /\ Bp x /\ YN x /\ x.c.base = x.c.base /\ x.c.scale = x.c.scale /\ x.c.off = x.c.off /\ ZZ x
 /\ ZE x /\ Ax x /\ YQ x /\ LO x /\ LU x /\ LN x /\ MJ x /\ MM x /\ Hc x /\ It x /\ Hb x /\ Fa x /\ IL /\ AT = AT /\ Fo x /\
 MH x /\ Hp x /\ ZC /\ (∀ (i : Nat), i < 40 -> mtG x a_4.i a_4.j i = bif decide (i = Ge x a_2) then true else mtG x a_2.i a_2.j i) /\ (gD x.l a_4.i).a = (gD x.l a_2.i).a /\ (gD x.l a_4.i).b = (gD
 x.l a_2.i).b) /\ Hf a_4 x a /\ kY a_4 < kY a_2 else ∃ (a_4 : Nat), (x.m = x.m /\ IR x /\ IT x /\ Aj /\ IR x /\ IT x /\ YR x /\ (↑a_4 : Int) = IntKind.i64.wrap
 ((↑a_2.i : Int) + 1) /\ Bp x /\ YN x /\ x.c.base = x.c.base /\ x.c.scale = x.c.scale /\ x.c.off = x.c.off /\ ZZ x /\ ZE x /\ Ax x /\ YQ x /\ LO x /\ LU x /\ LN x /\
 MJ x /\ MM x /\ Hc x /\ It x /\ Hb x /\ Fa x /\ IL /\ AT = AT /\ Fo x /\ MH x /\ Hp x /\ ZC /\ ∀ (i : Nat), i < 40 -> mtF x a_4 i = mtG x a_2.i
 a_2.j i) /\ Ff a_4 x /\ Ek x a_4 < Ek x a else (LL x).fst = decide ((↑x.l.length : Int) >= x.m) /\ lO x) := by kernel_rfl
def CDR : Ann := ann 71 [(GR, C_openX.spec dC1)]
def CEV (x : Prv) : Prop := AZ Try.prog CDR Lz (AL Lz) (xPrv x) (AG []) (.tup [.bool false, .int (AK x.c)]) [] [] []
theorem CIL (x : Prv) : (CEV x) = ((x.c.p.lo = x.c.p.lo /\ x.c.p.hi = x.c.p.hi /\ x.c.base = x.c.base /\ x.c.scale = x.c.scale /\ x.c.off = x.c.off /\ (AE x.c.ms.length λ (i : Nat) => gD x.c.ms i).length =
 x.c.ms.length /\ (∀ (i : Nat), i < (AE x.c.ms.length λ (i : Nat) => gD x.c.ms i).length -> (gD (AE x.c.ms.length λ (i : Nat) => gD x.c.ms i) i).pl = (gD x.c.ms i).pl /\ (gD (AE x.c.ms.length λ (i : Nat) => gD
 x.c.ms i) i).ht = (gD x.c.ms i).ht) /\ (AE x.c.ns.length λ (i : Nat) => gD x.c.ns i).length = x.c.ns.length /\ (∀ (i : Nat), i < (AE x.c.ns.length λ (i : Nat) => gD x.c.ns i).length -> (gD (AE x.c.ns.length λ (i :
 Nat) => gD x.c.ns i) i).mi = (gD x.c.ns i).mi /\ (gD (AE x.c.ns.length λ (i : Nat) => gD x.c.ns i) i).t.lo = (gD x.c.ns i).t.lo /\ (gD (AE x.c.ns.length λ (i : Nat) => gD x.c.ns i) i).t.hi = (gD x.c.ns i).t.hi /\ (gD
 (AE x.c.ns.length λ (i : Nat) => gD x.c.ns i) i).s.lo = (gD x.c.ns i).s.lo /\ (gD (AE x.c.ns.length λ (i : Nat) => gD x.c.ns i) i).s.hi = (gD x.c.ns i).s.hi) /\ ((AE x.c.ms.length λ (i : Nat) => gD x.c.ms
 i).length < 4611686018427387904 /\ (AE x.c.ns.length λ (i : Nat) => gD x.c.ns i).length < 4611686018427387904) /\ AK (Cht.mk x.c.p x.c.base x.c.scale x.c.off (AE x.c.ms.length λ (i : Nat) => gD x.c.ms i) (AE
 x.c.ns.length λ (i : Nat) => gD x.c.ns i)) ≠ 0) /\ bif AK (Cht.mk x.c.p x.c.base x.c.scale x.c.off (AE x.c.ms.length λ (i : Nat) => gD x.c.ms i) (AE x.c.ns.length λ (i : Nat) => gD x.c.ns i)) != 0 then false =
 false /\ AK x.c = AK (Cht.mk x.c.p x.c.base x.c.scale x.c.off (AE x.c.ms.length λ (i : Nat) => gD x.c.ms i) (AE x.c.ns.length λ (i : Nat) => gD x.c.ns i)) else bif decide ((↑x.l.length : Int) > 40) then
 false = false /\ AK x.c = 3 else False) := by kernel_rfl
theorem CQJ {c : Cht} {p : Pr} (hn : c.ns.length < 1073741824) (h : HX c p = true) : ((0 <= p.a /\ p.a < c.ns.length) /\ 0 <= p.b /\ p.b < c.ns.length) /\ (nA c p).mi < (nB c p).mi := by
 unfold HX at h
 cases hq : ALV c.ns.length p with
 | false => rw [hq] at h; cases h
 | true =>
  rw [hq] at h
  have h : (bif (!(p.a == p.b && p.b == p.a)) then decide ((nA c p).mi < (nB c p).mi) else false) = true := h
  unfold ALV wr HG at hq
  rw [FH (by omega) (by omega)] at hq
  simp only [Bool.and_eq_true, decide_eq_true_eq] at hq
  refine ⟨⟨by omega, by omega⟩, ?_⟩
  cases hb : (!(p.a == p.b && p.b == p.a)) with
  | false => rw [hb] at h; cases h
  | true => rw [hb] at h; exact of_decide_eq_true h
theorem BYN {x : Prv} : ∀ {m k : Nat}, k <= m -> pvK x m = true -> pvK x k = true
 | 0, k, h, hm => by
  obtain rfl : k = 0 := by omega
  rfl
 | m + 1, k, h, hm => by
  by_cases hk : k = m + 1
  ·subst hk; exact hm
  ·have h2 : (pvK x m && PI x.c (gD x.l m) && !hitJ (mtF x m) (UP x m).toNat (pvB x m - UP x m).toNat) = true := hm
   rw [Bool.and_eq_true, Bool.and_eq_true] at h2
   exact BYN (by omega) h2.1.1
theorem CNZ {f : Nat -> Bool} {a : Nat} : ∀ {m k : Nat}, k <= m -> hitJ f a k = true -> hitJ f a m = true
 | 0, k, h, hm => by
  obtain rfl : k = 0 := by omega
  exact hm
 | m + 1, k, h, hm => by
  by_cases hk : k = m + 1
  ·subst hk; exact hm
  ·show (hitJ f a m || f (a + m)) = true
   rw [CNZ (show k <= m by omega) hm]; rfl
theorem CDZ {x : Prv} (h1 : ¬(x.l.length : Int) > 40) (h2 : (x.l.all λ p => HX x.c p) = true) {k : Nat} (hk : k < x.l.length) (h3 : pvK x (k + 1) = false) : (LL x).1 = false /\ (LL x).2 = 0 := by
 have h : pvK x x.l.length = false := by
  cases hq : pvK x x.l.length with
  | false => rfl
  | true => rw [BYN (show k + 1 <= x.l.length from hk) hq] at h3; cases h3
 unfold LL; rw [decide_eq_false h1, h2, h]; exact ⟨rfl, rfl⟩
theorem CVP (x : Prv) (h1 : x.c.ms.length < 4611686018427387904 /\ x.c.ns.length < 4611686018427387904 /\ x.l.length < 4611686018427387904) (h0 : AK x.c = 0) : CIN x := by
 have hl := ES h0
 have hs := Xf h0
 have hM := CTT hs.1
 rw [CPL]; delta Bp YN zP yU BFY N5 H5 uM ARA AQP AET Zx dN X8 Y6 MN Yq cH AHS Zt AAY Cp AHF YO AAM Bi AKE AKS QJ Xk cX cL AFX Z6 bA AHV cQ YG RI ZI QY Ck bE ABY dS ADH ABB AHJ bH AFI Zf ACK AFV ACO Xq S3 aM IL AJI Zm bT S8 Wv S2 aL Xn AFE AKA ABQ bJ ABG Yg AKV ABL AEQ Yl ACX dT IR ACS V3 IT Aj YR ZZ ZE Ax YQ Wx QZ PX aS QS AGJ QO RA ACQ QL RK ZC Ff rW LO LU LN MJ MM Gk MV rX gQ nN MY JJ sS Hj UJ oP iN jL kG gU iA jQ MH Ep oD qA lR lZ nO mI gH nW lO gW GN Hc It Hb Fa Fo Hp Ek Hf Ge sV kY; simp only [CC, eq_self, implies_true, forall_const, BZ, AAT, YA, BWM, BIW, CSR]
 refine ⟨⟨⟨h1.1, h1.2.1⟩, h0⟩, λ hc => ?_, λ hc => ⟨⟨h1.2.2, by omega⟩, λ ha => ?_, λ ha => ⟨rfl, ⟨0, ⟨rfl, λ _ _ => rfl⟩, Nat.zero_le _, rfl⟩, ?_⟩⟩⟩
 ·unfold LL; rw [decide_eq_true hc]; exact ⟨rfl, rfl⟩
 ·unfold LL; rw [decide_eq_false hc, ha]; exact ⟨rfl, rfl⟩
 ·rintro k ⟨hk, hp⟩
  have hP : ∀ k, k < x.l.length -> _ := λ k hk => CQJ (by omega) (List.all_eq_true.1 ha _ (NB hk))
  have mA : ∀ k, k < x.l.length -> 0 <= UP x k /\ UP x k < x.c.ms.length := λ k hk => hM _ (by have := (hP k hk).1; omega)
  have mB : ∀ k, k < x.l.length -> 0 <= pvB x k /\ pvB x k < x.c.ms.length := λ k hk => hM _ (by have := (hP k hk).1; omega)
  have mL : ∀ k, k < x.l.length -> UP x k < pvB x k := λ k hk => (hP k hk).2
  have eB : ∀ k, (gD x.c.ns (gD x.l k).b.toNat).mi = pvB x k := λ _ => rfl
  have eA : ∀ k, (gD x.c.ns (gD x.l k).a.toNat).mi = UP x k := λ _ => rfl
  refine ⟨λ hlt => ⟨⟨by omega, by omega⟩, ⟨(hP k (by omega)).1, ⟨hl.2.1.2, hl.2.2⟩, hM⟩, λ hL => ?_, λ hL => ⟨(hP k (by omega)).1.1, ⟨⟨k, 0⟩, ⟨by rw [eA]; show UP x k + ((0 : Nat) : Int) = _; omega, rfl, λ i hi => ?_, rfl, rfl⟩, ⟨by show k < _; omega, rfl⟩, ⟨hp, hL⟩, by have := mL k (by omega); show UP x k + ((0 : Nat) : Int) <= pvB x k; omega, rfl⟩, ?_⟩⟩, λ hge => ?_⟩
  ·refine CDZ hc ha (k := k) (by omega) ?_
   show (pvK x k && PI x.c (gD x.l k) && _) = false
   rw [hL]; simp
  ·show (mtF x k i || (decide (UP x k <= i) && decide ((i : Int) < UP x k + ((0 : Nat) : Int)))) = mtF x k i
   rw [show (decide (UP x k <= i) && decide ((i : Int) < UP x k + ((0 : Nat) : Int))) = false by simp, Bool.or_false]
  ·rintro ⟨i, j⟩ ⟨⟨y1, y2⟩, ⟨y3, y4⟩, y5, y6⟩
   dsimp only at y1 y2 y3 y4 y5 y6 ⊢
   simp only [eB]
   have a1 := mA i y1
   have b1 := mB i y1
   have l1 := mL i y1
   have e : (UP x i + (j : Int)).toNat = (UP x i).toNat + j := by omega
   have eG : mtG x i j ((UP x i).toNat + j) = mtF x i ((UP x i).toNat + j) := by
    show (mtF x i _ || (decide (UP x i <= _) && decide (_ < UP x i + (j : Int)))) = _
    rw [decide_eq_false (show ¬(((UP x i).toNat + j : Nat) : Int) < UP x i + (j : Int) by omega), Bool.and_false, Bool.or_false]
   refine ⟨(hP i y1).1.2, λ hb => ⟨⟨⟨by omega, by omega⟩, by omega⟩, λ hm => ?_, λ hm => ⟨⟨⟨by omega, by omega⟩, by omega⟩, ⟨i, j + 1⟩, ⟨?_, rfl, λ t ht => ?_, rfl, rfl⟩, ⟨⟨y1, y2⟩, ⟨y3, y4⟩, by show UP x i + ((j + 1 : Nat) : Int) <= pvB x i; omega, ?_⟩, by show 50 - (j + 1) < _; omega⟩⟩, λ hb => ⟨i + 1, ⟨by rw [FH (by omega) (by omega)]; rfl, λ t ht => ?_⟩, ⟨by omega, ?_⟩, by omega⟩⟩
   ·rw [e, eG] at hm
    refine CDZ hc ha (k := i) y1 ?_
    have h9 : hitJ (mtF x i) (UP x i).toNat (j + 1) = true := by
     show (hitJ _ _ _ || _) = true
     rw [hm, Bool.or_true]
    show (pvK x i && PI x.c (gD x.l i) && !hitJ _ _ _) = false
    rw [CNZ (show j + 1 <= (pvB x i - UP x i).toNat by omega) h9]; simp
   ·show UP x i + ((j + 1 : Nat) : Int) = _
    rw [FH (by omega) (by omega)]; omega
   ·show (mtF x i t || (decide (UP x i <= t) && decide ((t : Int) < UP x i + ((j + 1 : Nat) : Int)))) = bif _ then true else (mtF x i t || (decide (UP x i <= t) && decide ((t : Int) < UP x i + (j : Int))))
    rw [e]
    by_cases h7 : t = (UP x i).toNat + j
    ·rw [decide_eq_true h7, decide_eq_true (show UP x i <= t by omega), decide_eq_true (show (t : Int) < UP x i + ((j + 1 : Nat) : Int) by omega)]; simp
    ·rw [decide_eq_false h7]
     show _ = (mtF x i t || _)
     congr 2
     exact decide_eq_decide.2 (by omega)
   ·rw [e, eG] at hm
    show (hitJ _ _ _ || _) = false
    rw [y6, hm]; rfl
   ·have e3 : UP x i + (j : Int) = pvB x i := by omega
    show (mtF x i t || _) = (mtF x i t || (decide (UP x i <= t) && decide ((t : Int) < UP x i + (j : Int))))
    rw [e3]
   ·have e3 : (pvB x i - UP x i).toNat = j := by omega
    show (pvK x i && PI x.c (gD x.l i) && !hitJ _ _ _) = true
    rw [e3, y3, y4, y6]; rfl
  ·have e : k = x.l.length := by omega
   subst e
   unfold LL; rw [decide_eq_false hc, ha, hp]; exact ⟨by simp, rfl⟩
theorem CRH : AM Try.prog BBI (C_prov.spec dPrv) := okT C_prov (λ (x : Prv) h => by
 have h1 : x.c.ms.length < 4611686018427387904 /\ x.c.ns.length < 4611686018427387904 /\ x.l.length < 4611686018427387904 := h
 by_cases h0 : AK x.c = 0
 ·have e : C_prov.val x = .tup [.bool (LL x).1, .int (LL x).2] := by
   show AVal.tup [.bool (ALY x).1, .int (ALY x).2] = _
   unfold ALY; rw [h0]; rfl
  rw [e]
  exact UO (A := CLV x) (L := []) (keep := []) (ren := []) (fz := []) BKQ (by kernel_rfl) (AC K8 (AC CZD (AC CEE AJ))) (CVP x h1 h0)
 ·have h0' : (AK x.c == 0) = false := by simpa using h0
  have e : C_prov.val x = .tup [.bool false, .int (AK x.c)] := by
   show AVal.tup [.bool (ALY x).1, .int (ALY x).2] = _
   unfold ALY; rw [h0']; rfl
  rw [e]
  refine UO (A := CDR) (L := []) (keep := []) (ren := []) (fz := []) BKQ (by kernel_rfl) (AC yX AJ) ?_
  show CEV x; rw [CIL]; simp only [CC, eq_self, implies_true, forall_const, BZ]
  simp [h1, h0]) _
end Go.Bal
