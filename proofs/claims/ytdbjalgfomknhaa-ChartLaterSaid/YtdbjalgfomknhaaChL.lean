/- Package chart: Late, Proves. -/
import Derived.Test.YtdbjalgfomknhaaChK
set_option linter.unusedVariables false
set_option linter.unusedSimpArgs false
namespace Go.Bal
open Go Go.Sym Go.Proofs
structure Prv where
 c : Cht
 m : Int
 l : List Pr
def dPrv : List AVal -> Heap -> Option (Prv × List (Nat × Nat) × List Nat)
 | [x, .d m, y], H => match BVO x H, G9 y H with
  | some (c, f), some (n, g, e) => some (⟨c, BU m, AE n λ i => dPr (g i)⟩, [], f ++ e)
  | _, _ => none
 | _, _ => none
def xPrv (x : Prv) : List AVal := [.d (YV x.c), .int x.m, .d (ZA x.l)]
def UK (x : Prv) (k : Nat) : Int := (nA x.c (gD x.l k)).mi
def pvB (x : Prv) (k : Nat) : Int := (nB x.c (gD x.l k)).mi
def mtF (x : Prv) : Nat -> Nat -> Bool
 | 0, _ => false
 | k + 1, i => mtF x k i || (decide (UK x k <= i) && decide ((i : Int) < pvB x k))
def hitJ (f : Nat -> Bool) (a : Nat) : Nat -> Bool
 | 0 => false
 | j + 1 => hitJ f a j || f (a + j)
def pvK (x : Prv) : Nat -> Bool
 | 0 => true
 | k + 1 => pvK x k && KT x.c (gD x.l k) && !hitJ (mtF x k) (UK x k).toNat (pvB x k - UK x k).toNat
def LC (x : Prv) : Bool × Int := bif decide ((x.l.length : Int) > 40) then (false, 3) else bif !(x.l.all λ p => HR x.c p) then (false, 2) else (pvK x x.l.length && decide ((x.l.length : Int) >= x.m), 0)
def AME (x : Prv) : Bool × Int := bif AJ x.c == 0 then LC x else (false, AJ x.c)
def C_prov : Ctr := { α := Prv, xs := xPrv, val := λ x => .tup [.bool (AME x).1, .int (AME x).2], keep := λ _ => [], pre := λ x => [x.c.ms.length < 4611686018427387904 /\ x.c.ns.length < 4611686018427387904 /\ x.l.length < 4611686018427387904] }
def pvS (x : Prv) (k : Nat) : List (Nat × AVal) := [(1, .int x.m), (2, .d (ZA x.l)), (3, .bptr 201 0), (8, .bptr 203 0), (10, .rptr 205 1 0 0), (33, .d (ZA x.l)), (34, .int x.l.length), (35, .int k)]
def pvH (x : Prv) (f : Nat -> Bool) : List (Nat × HCell) := [(201, .live (chB x.c)), (203, .live (dkB (AG x.c) 204)), (204, .live (dkM (AG x.c))), (205, .live (.row 1 40 λ i => .v (.bool (f i))))]
def pv10 (x : Prv) : Shape := { α := Nat, dflt := 0, T := λ k => ⟨pvS x k, pvH x (mtF x k)⟩, inv := λ k => k <= x.l.length /\ pvK x k = true, meas := λ k => x.l.length - k, first := [(201, 1000), (203, 2016), (204, 2017), (205, 9000)] }
def mtG (x : Prv) (k j : Nat) : Nat -> Bool := λ i => mtF x k i || (decide (UK x k <= i) && decide ((i : Int) < UK x k + j))
def pv15 (x : Prv) (m : Nat) : Shape := { α := IJ, dflt := default, T := λ s => ⟨[(12, .bptr 206 0), (13, .int (UK x s.i + s.j))] ++ pvS x s.i, pvH x (mtG x s.i s.j) ++ [(206, .live (.box [.int (gD x.l s.i).a, .int (gD x.l s.i).b]))]⟩, inv := λ s => (s.i < x.l.length /\ x.l.length - s.i = m) /\ (pvK x s.i = true /\ KT x.c (gD x.l s.i) = true) /\ (UK x s.i + s.j <= pvB x s.i /\ hitJ (mtF x s.i) (UK x s.i).toNat s.j = false), meas := λ s => 50 - s.j, first := [(206, 12032)] }
def CIF (x : Prv) : Ann := { ann 71 [(GH, C_open.spec dC1), (n_eP, C4Pp.spec d4Pp), (BKC, C_late.spec dDkP)] with loops := λ id => if id = 10 then some [pv10 x] else none, inner := λ gs id => if id = 15 then some [pv15 x (gs.getD 0 0)] else none }
def CFG (x : Prv) : Prop := AW Try.prog (CIF x) Ln (AK Ln) (xPrv x) (AF []) (.tup [.bool (LC x).1, .int (LC x).2]) [] [] []
abbrev Dj (x : Prv) : Prop := x.c.p.lo = x.c.p.lo
abbrev ZH (x : Prv) : Prop := x.c.p.hi = x.c.p.hi
abbrev C0 (x : Prv) : List Mk := AE x.c.ms.length λ (i : Nat) => gD x.c.ms i
abbrev vZ (x : Prv) : Nat := (C0 x).length
abbrev BHH (x : Prv) (i : Nat) : Mk := gD (C0 x) i
abbrev vS (x : Prv) : List Nt := AE x.c.ns.length λ (i : Nat) => gD x.c.ns i
abbrev F9 (x : Prv) : Nat := (vS x).length
abbrev C8 (x : Prv) (i : Nat) : Nt := gD (vS x) i
abbrev BAE (x : Prv) (i : Nat) : Span := (C8 x i).t
abbrev ATQ (x : Prv) (i : Nat) : Span := (C8 x i).s
abbrev AAL (x : Prv) : Cht := Cht.mk x.c.p x.c.base x.c.scale x.c.off (C0 x) (vS x)
abbrev eU (x : Prv) : List Pr := AE x.l.length λ (i : Nat) => gD x.l i
abbrev aQ (x : Prv) : Nat := (eU x).length
abbrev AGU (x : Prv) (i : Nat) : Pr := gD (eU x) i
abbrev ABX (x : Prv) : Dk := AG (AAL x)
abbrev LE (x : Prv) : Cht := (ABX x).c
abbrev gL (x : Prv) : Span := (LE x).p
abbrev fH (x : Prv) : Int := (gL x).lo
abbrev M1 (x : Prv) : Prop := fH x = fH x
abbrev fX (x : Prv) : Int := (gL x).hi
abbrev Q7 (x : Prv) : Prop := fX x = fX x
abbrev Aw (x : Prv) : Int := (LE x).base
abbrev AEB (x : Prv) : Prop := Aw x = Aw x
abbrev Dv (x : Prv) : Int := (LE x).scale
abbrev M9 (x : Prv) : Prop := Dv x = Dv x
abbrev Af (x : Prv) : Int := (LE x).off
abbrev AGY (x : Prv) : Prop := Af x = Af x
abbrev AAP (x : Prv) : List Mk := (LE x).ms
abbrev PZ (x : Prv) : Nat := (AAP x).length
abbrev bO (x : Prv) (i : Nat) : Mk := gD (AAP x) i
abbrev dS (x : Prv) : List Mk := AE (PZ x) λ (i : Nat) => bO x i
abbrev cQ (x : Prv) : Nat := (dS x).length
abbrev Y7 (x : Prv) (i : Nat) : Mk := gD (dS x) i
abbrev AJS (x : Prv) (i : Nat) : Int := (Y7 x i).pl
abbrev aO (x : Prv) (i : Nat) : Int := (bO x i).pl
abbrev AGO (x : Prv) (i : Nat) : Int := (Y7 x i).ht
abbrev bL (x : Prv) (i : Nat) : Int := (bO x i).ht
abbrev ZN (x : Prv) : List Nt := (LE x).ns
abbrev RC (x : Prv) : Nat := (ZN x).length
abbrev Dm (x : Prv) (i : Nat) : Nt := gD (ZN x) i
abbrev RH (x : Prv) : List Nt := AE (RC x) λ (i : Nat) => Dm x i
abbrev Au (x : Prv) : Nat := (RH x).length
abbrev cW (x : Prv) (i : Nat) : Nt := gD (RH x) i
abbrev U9 (x : Prv) (i : Nat) : Int := (cW x i).mi
abbrev fB (x : Prv) (i : Nat) : Int := (Dm x i).mi
abbrev V4 (x : Prv) (i : Nat) : Span := (cW x i).t
abbrev AGD (x : Prv) (i : Nat) : Int := (V4 x i).lo
abbrev V3 (x : Prv) (i : Nat) : Span := (Dm x i).t
abbrev eY (x : Prv) (i : Nat) : Int := (V3 x i).lo
abbrev ACP (x : Prv) (i : Nat) : Int := (V4 x i).hi
abbrev aR (x : Prv) (i : Nat) : Int := (V3 x i).hi
abbrev ADW (x : Prv) (i : Nat) : Span := (cW x i).s
abbrev AGA (x : Prv) (i : Nat) : Int := (ADW x i).lo
abbrev U2 (x : Prv) (i : Nat) : Span := (Dm x i).s
abbrev fK (x : Prv) (i : Nat) : Int := (U2 x i).lo
abbrev AJP (x : Prv) (i : Nat) : Int := (ADW x i).hi
abbrev cK (x : Prv) (i : Nat) : Int := (U2 x i).hi
abbrev II : Prop := ∀ (i : Nat), i < 40 -> false = false
abbrev Z7 (x : Prv) (n : Int) : Bool := hasN (RH x) n
abbrev fD (x : Prv) (n : Int) : Bool := hasN (ZN x) n
abbrev dV (x : Prv) (n : Int) : Int := (ABX x).st n
abbrev AIE (x : Prv) : Prop := ∀ (n : Int), dV x n = dV x n
abbrev Yl (x : Prv) (n : Int) : Nt := ntOf (RH x) n
abbrev AGG (x : Prv) (n : Int) : Int := (Yl x n).mi
abbrev bX (x : Prv) (n : Int) : Nt := ntOf (ZN x) n
abbrev Zp (x : Prv) (n : Int) : Int := (bX x n).mi
abbrev AEZ (x : Prv) (n : Int) : Span := (Yl x n).t
abbrev AJQ (x : Prv) (n : Int) : Int := (AEZ x n).lo
abbrev ACJ (x : Prv) (n : Int) : Span := (bX x n).t
abbrev eE (x : Prv) (n : Int) : Int := (ACJ x n).lo
abbrev AAS (x : Prv) (n : Int) : Int := (AEZ x n).hi
abbrev Zv (x : Prv) (n : Int) : Int := (ACJ x n).hi
abbrev AIG (x : Prv) (n : Int) : Span := (Yl x n).s
abbrev P8 (x : Prv) (n : Int) : Int := (AIG x n).lo
abbrev P9 (x : Prv) (n : Int) : Span := (bX x n).s
abbrev bQ (x : Prv) (n : Int) : Int := (P9 x n).lo
abbrev N1 (x : Prv) (n : Int) : Int := (AIG x n).hi
abbrev Ye (x : Prv) (n : Int) : Int := (P9 x n).hi
abbrev IA (x : Prv) : Prop := x.l.length = x.l.length
abbrev M5 (x : Prv) (i : Nat) : Prop := (gD x.l i).a = (gD x.l i).a
abbrev ACO (x : Prv) (i : Nat) : Prop := (gD x.l i).b = (gD x.l i).b
abbrev ID (x : Prv) : Prop := ∀ (i : Nat), i < x.l.length -> M5 x i /\ ACO x i
abbrev Cq : Prop := 0 = 0
abbrev Bt (x : Prv) : Prop := (↑x.l.length : Int) = (↑x.l.length : Int)
abbrev Cx (x : Prv) : Prop := x.c.ms.length = x.c.ms.length
abbrev Ax (x : Prv) : Prop := ∀ (i : Nat), i < x.c.ms.length -> (gD x.c.ms i).pl = (gD x.c.ms i).pl /\ (gD x.c.ms i).ht = (gD x.c.ms i).ht
abbrev Cg (x : Prv) : Prop := x.c.ns.length = x.c.ns.length
abbrev Cu (x : Prv) : Prop := ∀ (i : Nat), i < x.c.ns.length -> (gD x.c.ns i).mi = (gD x.c.ns i).mi /\ (gD x.c.ns i).t.lo = (gD x.c.ns i).t.lo /\ (gD x.c.ns i).t.hi = (gD x.c.ns i).t.hi /\ (gD x.c.ns i).s.lo = (gD
 x.c.ns i).s.lo /\ (gD x.c.ns i).s.hi = (gD x.c.ns i).s.hi
abbrev dP (i : Nat) (x : Prv) : Prop := i < (AG x.c).c.ms.length
abbrev RF (x : Prv) (i : Nat) : Int := (gD (AG x.c).c.ms i).pl
abbrev PX (x : Prv) (i : Nat) : Int := (gD (AG x.c).c.ms i).ht
abbrev bP (i : Nat) (x : Prv) : Prop := i < (AG x.c).c.ns.length
abbrev QS (x : Prv) (i : Nat) : Int := (gD (AG x.c).c.ns i).mi
abbrev ADN (x : Prv) (i : Nat) : Span := (gD (AG x.c).c.ns i).t
abbrev QN (x : Prv) (i : Nat) : Int := (ADN x i).lo
abbrev QH (x : Prv) (i : Nat) : Int := (ADN x i).hi
abbrev AAI (x : Prv) (i : Nat) : Span := (gD (AG x.c).c.ns i).s
abbrev RE (x : Prv) (i : Nat) : Int := (AAI x i).lo
abbrev RA (x : Prv) (i : Nat) : Int := (AAI x i).hi
abbrev Cs : Prop := 40 = 40
abbrev Fs (a : Nat) (x : Prv) : Prop := a <= x.l.length /\ pvK x a = true
abbrev qB (a : Nat) (x : Prv) : Prop := (↑a : Int) < (↑x.l.length : Int)
abbrev MR (x : Prv) : Prop := (AG x.c).c.p.lo = (AG x.c).c.p.lo
abbrev LS (x : Prv) : Prop := (AG x.c).c.p.hi = (AG x.c).c.p.hi
abbrev LG (x : Prv) : Prop := (AG x.c).c.base = (AG x.c).c.base
abbrev MY (x : Prv) : Prop := (AG x.c).c.scale = (AG x.c).c.scale
abbrev MT (x : Prv) : Prop := (AG x.c).c.off = (AG x.c).c.off
abbrev Eo (x : Prv) : List Mk := AE (AG x.c).c.ms.length λ (i : Nat) => gD (AG x.c).c.ms i
abbrev MU (x : Prv) : Nat := (Eo x).length
abbrev hG (x : Prv) (i : Nat) : Mk := gD (Eo x) i
abbrev kB (x : Prv) (i : Nat) : Int := (hG x i).pl
abbrev iO (x : Prv) (i : Nat) : Int := (hG x i).ht
abbrev LO (x : Prv) : List Nt := AE (AG x.c).c.ns.length λ (i : Nat) => gD (AG x.c).c.ns i
abbrev JC (x : Prv) : Nat := (LO x).length
abbrev iY (i : Nat) (x : Prv) : Prop := i < JC x
abbrev Gd (x : Prv) (i : Nat) : Nt := gD (LO x) i
abbrev SS (x : Prv) (i : Nat) : Int := (Gd x i).mi
abbrev nC (x : Prv) (i : Nat) : Span := (Gd x i).t
abbrev rL (x : Prv) (i : Nat) : Int := (nC x i).lo
abbrev pM (x : Prv) (i : Nat) : Int := (nC x i).hi
abbrev qM (x : Prv) (i : Nat) : Span := (Gd x i).s
abbrev mP (x : Prv) (i : Nat) : Int := (qM x i).lo
abbrev nV (x : Prv) (i : Nat) : Int := (qM x i).hi
abbrev oS (x : Prv) (n : Int) : Bool := hasN (LO x) n
abbrev MM (x : Prv) : Prop := ∀ (n : Int), (AG x.c).st n = (AG x.c).st n
abbrev Iw (x : Prv) (n : Int) : Nt := ntOf (LO x) n
abbrev iC (x : Prv) (n : Int) : Int := (Iw x n).mi
abbrev oE (x : Prv) (n : Int) : Span := (Iw x n).t
abbrev lH (x : Prv) (n : Int) : Int := (oE x n).lo
abbrev qL (x : Prv) (n : Int) : Int := (oE x n).hi
abbrev nJ (x : Prv) (n : Int) : Span := (Iw x n).s
abbrev sN (x : Prv) (n : Int) : Int := (nJ x n).lo
abbrev lJ (x : Prv) (n : Int) : Int := (nJ x n).hi
abbrev sH (x : Prv) (a : Nat) : Prop := 0 <= (gD x.l a).a
abbrev oK (x : Prv) : Prop := (LC x).snd = 0
abbrev lI (x : Prv) : Prop := (LC x).fst = false /\ oK x
abbrev FW (x : Prv) (a : IJ) : Int := UK x a.i + (↑a.j : Int)
abbrev Dz (x : Prv) : Prop := (AG x.c).c.ms.length = (AG x.c).c.ms.length
abbrev Ia (x : Prv) : Prop := ∀ (i : Nat), dP i x -> RF x i = RF x i /\ PX x i = PX x i
abbrev In (x : Prv) : Prop := (AG x.c).c.ns.length = (AG x.c).c.ns.length
abbrev Hz (x : Prv) : Prop := ∀ (i : Nat), bP i x -> QS x i = QS x i /\ QN x i = QN x i /\ QH x i = QH x i /\ RE x i = RE x i /\ RA x i = RA
 x i
abbrev Eu (x : Prv) : Prop := ∀ (n : Int), hasN (AG x.c).c.ns n = hasN (AG x.c).c.ns n
abbrev Jl (x : Prv) : Prop := ∀ (n : Int), (ntOf (AG x.c).c.ns n).mi = (ntOf (AG x.c).c.ns n).mi /\ (ntOf (AG x.c).c.ns n).t.lo = (ntOf (AG x.c).c.ns n).t.lo /\ (ntOf (AG x.c).c.ns n).t.hi = (ntOf (AG
 x.c).c.ns n).t.hi /\ (ntOf (AG x.c).c.ns n).s.lo = (ntOf (AG x.c).c.ns n).s.lo /\ (ntOf (AG x.c).c.ns n).s.hi = (ntOf (AG x.c).c.ns n).s.hi
abbrev Hy (x : Prv) (a : Nat) : Nat := x.l.length - a
abbrev Gs (a : IJ) (x : Prv) (a1 : Nat) : Prop := (a.i < x.l.length /\ x.l.length - a.i = Hy x a1) /\ (pvK x a.i = true /\ KT x.c (gD x.l a.i) = true) /\ FW x a <= pvB x a.i /\ hitJ (mtF x a.i) (UK
 x a.i).toNat a.j = false
abbrev Iy (x : Prv) (a : IJ) : Nat := (FW x a).toNat
abbrev qP (x : Prv) (a : IJ) : Prop := (0 <= FW x a /\ FW x a < (↑40 : Int)) /\ (Iy x a).succ.le 40
abbrev nG (a : IJ) : Nat := 50 - a.j
theorem COW (x : Prv) : (CFG x) = ((Dj x /\ ZH x /\ x.c.base = x.c.base /\ x.c.scale = x.c.scale /\ x.c.off = x.c.off /\ vZ x = x.c.ms.length /\ (∀ (i : Nat), i < vZ x -> (BHH x i).pl = (gD
 x.c.ms i).pl /\ (BHH x i).ht = (gD x.c.ms i).ht) /\ F9 x = x.c.ns.length /\ (∀ (i : Nat), i < F9 x -> (C8 x i).mi = (gD x.c.ns i).mi /\ (BAE x i).lo = (gD x.c.ns i).t.lo /\ (BAE x i).hi = (gD
 x.c.ns i).t.hi /\ (ATQ x i).lo = (gD x.c.ns i).s.lo /\ (ATQ x i).hi = (gD x.c.ns i).s.hi) /\ (vZ x < 4611686018427387904 /\ F9 x < 4611686018427387904) /\ AJ (AAL x) = 0) /\ bif decide
 ((↑x.l.length : Int) > 40) then (LC x).fst = false /\ (LC x).snd = 3 else (aQ x = x.l.length /\ (∀ (i : Nat), i < aQ x -> (AGU x i).a = (gD x.l i).a /\ (AGU x i).b = (gD x.l i).b) /\ M1
 x /\ Q7 x /\ AEB x /\ M9 x /\ AGY x /\ cQ x = PZ x /\ (∀ (i : Nat), i < cQ x -> AJS x i = aO x i /\ AGO x i = bL x i) /\ Au x = RC x /\ (∀ (i :
 Nat), i < Au x -> U9 x i = fB x i /\ AGD x i = eY x i /\ ACP x i = aR x i /\ AGA x i = fK x i /\ AJP x i = cK x i) /\ II /\ AT = AT /\ (∀ (n :
 Int), Z7 x n = fD x n) /\ AIE x /\ (∀ (n : Int), AGG x n = Zp x n /\ AJQ x n = eE x n /\ AAS x n = Zv x n /\ P8 x n = bQ x n /\ N1 x n = Ye
 x n) /\ M1 x /\ Q7 x /\ AEB x /\ M9 x /\ AGY x /\ PZ x = cQ x /\ (∀ (i : Nat), i < PZ x -> aO x i = AJS x i /\ bL x i = AGO x i) /\ RC x =
 Au x /\ (∀ (i : Nat), i < RC x -> fB x i = U9 x i /\ eY x i = AGD x i /\ aR x i = ACP x i /\ fK x i = AGA x i /\ cK x i = AJP x i) /\ II /\
 AT = AT /\ (∀ (n : Int), fD x n = Z7 x n) /\ AIE x /\ (∀ (n : Int), Zp x n = AGG x n /\ eE x n = AJQ x n /\ Zv x n = AAS x n /\ bQ x n = P8 x n /\
 Ye x n = N1 x n) /\ aQ x < 4611686018427387904 /\ Au x < 1073741824) /\ bif !(eU x).all λ (x_1 : Pr) => HR (Cht.mk (gL x) (Aw x) (Dv x) (Af x) (dS
 x) (RH x)) x_1 then (LC x).fst = false /\ (LC x).snd = 2 else (Value.agg #[Value.bool false, Value.bool false, Value.bool false, Value.bool false, Value.bool false, Value.bool false, Value.bool false,
 Value.bool false, Value.bool false, Value.bool false, Value.bool false, Value.bool false, Value.bool false, Value.bool false, Value.bool false, Value.bool false, Value.bool false, Value.bool false, Value.bool false,
 Value.bool false, Value.bool false, Value.bool false, Value.bool false, Value.bool false, Value.bool false, Value.bool false, Value.bool false, Value.bool false, Value.bool false, Value.bool false, Value.bool false,
 Value.bool false, Value.bool false, Value.bool false, Value.bool false, Value.bool false, Value.bool false, Value.bool false, Value.bool false, Value.bool false]).cells.toList = (List.replicate 40 (Value.bool
 false).cells.toList).flatten /\ (∃ (a : Nat), (x.m = x.m /\ IA x /\ ID x /\ Cq /\ IA x /\ ID x /\ Bt x /\ (↑a : Int) = 0 /\ Dj x /\ ZH x /\ x.c.base = x.c.base /\ x.c.scale =
 x.c.scale /\ x.c.off = x.c.off /\ Cx x /\ Ax x /\ Cg x /\ Cu x /\ (AG x.c).c.p.lo = fH x /\ (AG x.c).c.p.hi = fX x /\ (AG x.c).c.base = Aw x /\ (AG x.c).c.scale = Dv
 x /\ (AG x.c).c.off = Af x /\ (AG x.c).c.ms.length = PZ x /\ (∀ (i : Nat), dP i x -> RF x i = aO x i /\ PX x i = bL x i) /\ (AG x.c).c.ns.length = RC x /\ (∀ (i :
 Nat), bP i x -> QS x i = fB x i /\ QN x i = eY x i /\ QH x i = aR x i /\ RE x i = fK x i /\ RA x i = cK x i) /\ II /\ AT = AT /\ (∀ (n : Int),
 hasN (AG x.c).c.ns n = fD x n) /\ (∀ (n : Int), (AG x.c).st n = dV x n) /\ (∀ (n : Int), (ntOf (AG x.c).c.ns n).mi = Zp x n /\ (ntOf (AG x.c).c.ns n).t.lo = eE x n /\ (ntOf (AG x.c).c.ns
 n).t.hi = Zv x n /\ (ntOf (AG x.c).c.ns n).s.lo = bQ x n /\ (ntOf (AG x.c).c.ns n).s.hi = Ye x n) /\ Cs /\ ∀ (i : Nat), i < 40 -> mtF x a i = false) /\ Fs a x) /\ ∀ (a : Nat), Fs
 a x -> bif decide (qB a x) then (0 <= (↑a : Int) /\ qB a x) /\ (M5 x a /\ ACO x a /\ MR x /\ LS x /\ LG x /\ MY x /\ MT x /\ MU x = (AG x.c).c.ms.length
 /\ (∀ (i : Nat), i < MU x -> kB x i = RF x i /\ iO x i = PX x i) /\ JC x = (AG x.c).c.ns.length /\ (∀ (i : Nat), iY i x -> SS x i = QS x i /\ rL x i
 = QN x i /\ pM x i = QH x i /\ mP x i = RE x i /\ nV x i = RA x i) /\ II /\ AT = AT /\ (∀ (n : Int), oS x n = hasN (AG x.c).c.ns n) /\ MM x /\ (∀ (n
 : Int), iC x n = (ntOf (AG x.c).c.ns n).mi /\ lH x n = (ntOf (AG x.c).c.ns n).t.lo /\ qL x n = (ntOf (AG x.c).c.ns n).t.hi /\ sN x n = (ntOf (AG x.c).c.ns n).s.lo /\ lJ x n =
 (ntOf (AG x.c).c.ns n).s.hi) /\ MR x /\ LS x /\ LG x /\ MY x /\ MT x /\ (AG x.c).c.ms.length = MU x /\ (∀ (i : Nat), dP i x -> RF x i = kB x i /\ PX
 x i = iO x i) /\ (AG x.c).c.ns.length = JC x /\ (∀ (i : Nat), bP i x -> QS x i = SS x i /\ QN x i = rL x i /\ QH x i = pM x i /\ RE x i = mP
 x i /\ RA x i = nV x i) /\ II /\ AT = AT /\ (∀ (n : Int), hasN (AG x.c).c.ns n = oS x n) /\ MM x /\ (∀ (n : Int), (ntOf (AG x.c).c.ns n).mi = iC x n /\ (ntOf (AG x.c).c.ns
 n).t.lo = lH x n /\ (ntOf (AG x.c).c.ns n).t.hi = qL x n /\ (ntOf (AG x.c).c.ns n).s.lo = sN x n /\ (ntOf (AG x.c).c.ns n).s.hi = lJ x n) /\ ((sH x a /\ (gD x.l a).a <
 (↑(JC x) : Int)) /\ 0 <= (gD x.l a).b /\ (gD x.l a).b < (↑(JC x) : Int)) /\ (MU x <= 40 /\ JC x <= 20) /\ ∀ (i : Nat), iY i x -> 0 <= SS x i /\ SS x i < (↑(MU x) :
 Int)) /\ bif !KT (Cht.mk (AG x.c).c.p (AG x.c).c.base (AG x.c).c.scale (AG x.c).c.off (Eo x) (LO x)) (gD x.l a) then lI x else (sH x a /\ (gD x.l a).a < (↑x.c.ns.length : Int)) /\
 (∃ (a_2 : IJ), (FW x a_2 = (gD x.c.ns (gD x.l a).a.toNat).mi /\ x.m = x.m /\ IA x /\ ID x /\ Cq /\ IA x /\ ID x /\ Bt x /\ (↑a_2.i : Int) = (↑a : Int) /\ Dj x /\ ZH x /\
 x.c.base = x.c.base /\ x.c.scale = x.c.scale /\ x.c.off = x.c.off /\ Cx x /\ Ax x /\ Cg x /\ Cu x /\ MR x /\ LS x /\ LG x /\ MY x /\ MT x /\ Dz x /\
 Ia x /\ In x /\ Hz x /\ II /\ AT = AT /\ Eu x /\ MM x /\ Jl x /\ Cs /\ (∀ (i : Nat), i < 40 -> mtG x a_2.i a_2.j i = mtF x a i) /\ (gD x.l a_2.i).a = (gD x.l a).a /\
 (gD x.l a_2.i).b = (gD x.l a).b) /\ Gs a_2 x a) /\ ∀ (a_2 : IJ), Gs a_2 x a -> (0 <= (gD x.l a_2.i).b /\ (gD x.l a_2.i).b < (↑x.c.ns.length : Int)) /\ bif decide (FW x a_2 < (gD x.c.ns (gD x.l
 a_2.i).b.toNat).mi) then qP x a_2 /\ bif mtG x a_2.i a_2.j (Iy x a_2) then lI x else qP x a_2 /\ ∃ (a_4 : IJ), (FW x a_4 = IntKind.i64.wrap (FW x a_2 + 1) /\ x.m = x.m /\
 IA x /\ ID x /\ Cq /\ IA x /\ ID x /\ Bt x /\ (↑a_4.i : Int) = (↑a_2.i : Int) /\ Dj x /\ ZH x /\ x.c.base = x.c.base /\ x.c.scale = x.c.scale /\ x.c.off = x.c.off /\ Cx x
 /\ Ax x /\ Cg x /\ Cu x /\ MR x /\ LS x /\ LG x /\ MY x /\ MT x /\ Dz x /\ Ia x /\ In x /\ Hz x /\ II /\ AT = AT /\ Eu x /\
 MM x /\ Jl x /\ Cs /\ (∀ (i : Nat), i < 40 -> mtG x a_4.i a_4.j i = bif decide (i = Iy x a_2) then true else mtG x a_2.i a_2.j i) /\ (gD x.l a_4.i).a = (gD x.l a_2.i).a /\ (gD x.l a_4.i).b = (gD
 x.l a_2.i).b) /\ Gs a_4 x a /\ nG a_4 < nG a_2 else ∃ (a_4 : Nat), (x.m = x.m /\ IA x /\ ID x /\ Cq /\ IA x /\ ID x /\ Bt x /\ (↑a_4 : Int) = IntKind.i64.wrap
 ((↑a_2.i : Int) + 1) /\ Dj x /\ ZH x /\ x.c.base = x.c.base /\ x.c.scale = x.c.scale /\ x.c.off = x.c.off /\ Cx x /\ Ax x /\ Cg x /\ Cu x /\ MR x /\ LS x /\ LG x /\
 MY x /\ MT x /\ Dz x /\ Ia x /\ In x /\ Hz x /\ II /\ AT = AT /\ Eu x /\ MM x /\ Jl x /\ Cs /\ ∀ (i : Nat), i < 40 -> mtF x a_4 i = mtG x a_2.i
 a_2.j i) /\ Fs a_4 x /\ Hy x a_4 < Hy x a else (LC x).fst = decide ((↑x.l.length : Int) >= x.m) /\ oK x) := by kernel_rfl
def CDK : Ann := ann 71 [(GH, C_openX.spec dC1)]
def CAS (x : Prv) : Prop := AW Try.prog CDK Ln (AK Ln) (xPrv x) (AF []) (.tup [.bool false, .int (AJ x.c)]) [] [] []
theorem CIE (x : Prv) : (CAS x) = ((x.c.p.lo = x.c.p.lo /\ x.c.p.hi = x.c.p.hi /\ x.c.base = x.c.base /\ x.c.scale = x.c.scale /\ x.c.off = x.c.off /\ (AE x.c.ms.length λ (i : Nat) => gD x.c.ms i).length =
 x.c.ms.length /\ (∀ (i : Nat), i < (AE x.c.ms.length λ (i : Nat) => gD x.c.ms i).length -> (gD (AE x.c.ms.length λ (i : Nat) => gD x.c.ms i) i).pl = (gD x.c.ms i).pl /\ (gD (AE x.c.ms.length λ (i : Nat) => gD
 x.c.ms i) i).ht = (gD x.c.ms i).ht) /\ (AE x.c.ns.length λ (i : Nat) => gD x.c.ns i).length = x.c.ns.length /\ (∀ (i : Nat), i < (AE x.c.ns.length λ (i : Nat) => gD x.c.ns i).length -> (gD (AE x.c.ns.length λ (i :
 Nat) => gD x.c.ns i) i).mi = (gD x.c.ns i).mi /\ (gD (AE x.c.ns.length λ (i : Nat) => gD x.c.ns i) i).t.lo = (gD x.c.ns i).t.lo /\ (gD (AE x.c.ns.length λ (i : Nat) => gD x.c.ns i) i).t.hi = (gD x.c.ns i).t.hi /\ (gD
 (AE x.c.ns.length λ (i : Nat) => gD x.c.ns i) i).s.lo = (gD x.c.ns i).s.lo /\ (gD (AE x.c.ns.length λ (i : Nat) => gD x.c.ns i) i).s.hi = (gD x.c.ns i).s.hi) /\ ((AE x.c.ms.length λ (i : Nat) => gD x.c.ms
 i).length < 4611686018427387904 /\ (AE x.c.ns.length λ (i : Nat) => gD x.c.ns i).length < 4611686018427387904) /\ AJ (Cht.mk x.c.p x.c.base x.c.scale x.c.off (AE x.c.ms.length λ (i : Nat) => gD x.c.ms i) (AE
 x.c.ns.length λ (i : Nat) => gD x.c.ns i)) ≠ 0) /\ bif AJ (Cht.mk x.c.p x.c.base x.c.scale x.c.off (AE x.c.ms.length λ (i : Nat) => gD x.c.ms i) (AE x.c.ns.length λ (i : Nat) => gD x.c.ns i)) != 0 then false =
 false /\ AJ x.c = AJ (Cht.mk x.c.p x.c.base x.c.scale x.c.off (AE x.c.ms.length λ (i : Nat) => gD x.c.ms i) (AE x.c.ns.length λ (i : Nat) => gD x.c.ns i)) else bif decide ((↑x.l.length : Int) > 40) then
 false = false /\ AJ x.c = 3 else False) := by kernel_rfl
theorem CNE {c : Cht} {p : Pr} (hn : c.ns.length < 1073741824) (h : HR c p = true) : ((0 <= p.a /\ p.a < c.ns.length) /\ 0 <= p.b /\ p.b < c.ns.length) /\ (nA c p).mi < (nB c p).mi := by
 unfold HR at h
 cases hq : AMG c.ns.length p with
 | false => rw [hq] at h; cases h
 | true =>
  rw [hq] at h
  have h : (bif (!(p.a == p.b && p.b == p.a)) then decide ((nA c p).mi < (nB c p).mi) else false) = true := h
  unfold AMG wr GT at hq
  rw [CP (by omega) (by omega)] at hq
  simp only [Bool.and_eq_true, decide_eq_true_eq] at hq
  refine ⟨⟨by omega, by omega⟩, ?_⟩
  cases hb : (!(p.a == p.b && p.b == p.a)) with
  | false => rw [hb] at h; cases h
  | true => rw [hb] at h; exact of_decide_eq_true h
theorem BVS {x : Prv} : ∀ {m k : Nat}, k <= m -> pvK x m = true -> pvK x k = true
 | 0, k, h, hm => by
  obtain rfl : k = 0 := by omega
  rfl
 | m + 1, k, h, hm => by
  by_cases hk : k = m + 1
  ·subst hk; exact hm
  ·have h2 : (pvK x m && KT x.c (gD x.l m) && !hitJ (mtF x m) (UK x m).toNat (pvB x m - UK x m).toNat) = true := hm
   rw [Bool.and_eq_true, Bool.and_eq_true] at h2
   exact BVS (by omega) h2.1.1
theorem CLM {f : Nat -> Bool} {a : Nat} : ∀ {m k : Nat}, k <= m -> hitJ f a k = true -> hitJ f a m = true
 | 0, k, h, hm => by
  obtain rfl : k = 0 := by omega
  exact hm
 | m + 1, k, h, hm => by
  by_cases hk : k = m + 1
  ·subst hk; exact hm
  ·show (hitJ f a m || f (a + m)) = true
   rw [CLM (show k <= m by omega) hm]; rfl
theorem CCK {x : Prv} (h1 : ¬(x.l.length : Int) > 40) (h2 : (x.l.all λ p => HR x.c p) = true) {k : Nat} (hk : k < x.l.length) (h3 : pvK x (k + 1) = false) : (LC x).1 = false /\ (LC x).2 = 0 := by
 have h : pvK x x.l.length = false := by
  cases hq : pvK x x.l.length with
  | false => rfl
  | true => rw [BVS (show k + 1 <= x.l.length from hk) hq] at h3; cases h3
 unfold LC; rw [decide_eq_false h1, h2, h]; exact ⟨rfl, rfl⟩
theorem CVR (x : Prv) (h1 : x.c.ms.length < 4611686018427387904 /\ x.c.ns.length < 4611686018427387904 /\ x.l.length < 4611686018427387904) (h0 : AJ x.c = 0) : CFG x := by
 have hl := EB h0
 have hs := aF h0
 have hM := CRQ hs.1
 rw [COW]; delta Dj ZH C0 vZ BHH vS F9 C8 BAE ATQ AAL eU aQ AGU ABX LE gL fH M1 fX Q7 Aw AEB Dv M9 Af AGY AAP PZ bO dS cQ Y7 AJS aO AGO bL ZN RC Dm RH Au cW U9 fB V4 AGD V3 eY ACP aR ADW AGA U2 fK AJP cK II Z7 fD dV AIE Yl AGG bX Zp AEZ AJQ ACJ eE AAS Zv AIG P8 P9 bQ N1 Ye IA M5 ACO ID Cq Bt Cx Ax Cg Cu dP RF PX bP QS ADN QN QH AAI RE RA Cs Fs qB MR LS LG MY MT Eo MU hG kB iO LO JC iY Gd SS nC rL pM qM mP nV oS MM Iw iC oE lH qL nJ sN lJ sH oK lI FW Dz Ia In Hz Eu Jl Hy Gs Iy qP nG; simp only [CC, eq_self, implies_true, forall_const, BH, W2, YR, BWD, BDY, CQS]
 refine ⟨⟨⟨h1.1, h1.2.1⟩, h0⟩, λ hc => ?_, λ hc => ⟨⟨h1.2.2, by omega⟩, λ ha => ?_, λ ha => ⟨rfl, ⟨0, ⟨rfl, λ _ _ => rfl⟩, Nat.zero_le _, rfl⟩, ?_⟩⟩⟩
 ·unfold LC; rw [decide_eq_true hc]; exact ⟨rfl, rfl⟩
 ·unfold LC; rw [decide_eq_false hc, ha]; exact ⟨rfl, rfl⟩
 ·rintro k ⟨hk, hp⟩
  have hP : ∀ k, k < x.l.length -> _ := λ k hk => CNE (by omega) (List.all_eq_true.1 ha _ (CS hk))
  have mA : ∀ k, k < x.l.length -> 0 <= UK x k /\ UK x k < x.c.ms.length := λ k hk => hM _ (by have := (hP k hk).1; omega)
  have mB : ∀ k, k < x.l.length -> 0 <= pvB x k /\ pvB x k < x.c.ms.length := λ k hk => hM _ (by have := (hP k hk).1; omega)
  have mL : ∀ k, k < x.l.length -> UK x k < pvB x k := λ k hk => (hP k hk).2
  have eB : ∀ k, (gD x.c.ns (gD x.l k).b.toNat).mi = pvB x k := λ _ => rfl
  have eA : ∀ k, (gD x.c.ns (gD x.l k).a.toNat).mi = UK x k := λ _ => rfl
  refine ⟨λ hlt => ⟨⟨by omega, by omega⟩, ⟨(hP k (by omega)).1, ⟨hl.2.1.2, hl.2.2⟩, hM⟩, λ hL => ?_, λ hL => ⟨(hP k (by omega)).1.1, ⟨⟨k, 0⟩, ⟨by rw [eA]; show UK x k + ((0 : Nat) : Int) = _; omega, rfl, λ i hi => ?_, rfl, rfl⟩, ⟨by show k < _; omega, rfl⟩, ⟨hp, hL⟩, by have := mL k (by omega); show UK x k + ((0 : Nat) : Int) <= pvB x k; omega, rfl⟩, ?_⟩⟩, λ hge => ?_⟩
  ·refine CCK hc ha (k := k) (by omega) ?_
   show (pvK x k && KT x.c (gD x.l k) && _) = false
   rw [hL]; simp
  ·show (mtF x k i || (decide (UK x k <= i) && decide ((i : Int) < UK x k + ((0 : Nat) : Int)))) = mtF x k i
   rw [show (decide (UK x k <= i) && decide ((i : Int) < UK x k + ((0 : Nat) : Int))) = false by simp, Bool.or_false]
  ·rintro ⟨i, j⟩ ⟨⟨y1, y2⟩, ⟨y3, y4⟩, y5, y6⟩
   dsimp only at y1 y2 y3 y4 y5 y6 ⊢
   simp only [eB]
   have a1 := mA i y1
   have b1 := mB i y1
   have l1 := mL i y1
   have e : (UK x i + (j : Int)).toNat = (UK x i).toNat + j := by omega
   have eG : mtG x i j ((UK x i).toNat + j) = mtF x i ((UK x i).toNat + j) := by
    show (mtF x i _ || (decide (UK x i <= _) && decide (_ < UK x i + (j : Int)))) = _
    rw [decide_eq_false (show ¬(((UK x i).toNat + j : Nat) : Int) < UK x i + (j : Int) by omega), Bool.and_false, Bool.or_false]
   refine ⟨(hP i y1).1.2, λ hb => ⟨⟨⟨by omega, by omega⟩, by omega⟩, λ hm => ?_, λ hm => ⟨⟨⟨by omega, by omega⟩, by omega⟩, ⟨i, j + 1⟩, ⟨?_, rfl, λ t ht => ?_, rfl, rfl⟩, ⟨⟨y1, y2⟩, ⟨y3, y4⟩, by show UK x i + ((j + 1 : Nat) : Int) <= pvB x i; omega, ?_⟩, by show 50 - (j + 1) < _; omega⟩⟩, λ hb => ⟨i + 1, ⟨by rw [CP (by omega) (by omega)]; rfl, λ t ht => ?_⟩, ⟨by omega, ?_⟩, by omega⟩⟩
   ·rw [e, eG] at hm
    refine CCK hc ha (k := i) y1 ?_
    have h9 : hitJ (mtF x i) (UK x i).toNat (j + 1) = true := by
     show (hitJ _ _ _ || _) = true
     rw [hm, Bool.or_true]
    show (pvK x i && KT x.c (gD x.l i) && !hitJ _ _ _) = false
    rw [CLM (show j + 1 <= (pvB x i - UK x i).toNat by omega) h9]; simp
   ·show UK x i + ((j + 1 : Nat) : Int) = _
    rw [CP (by omega) (by omega)]; omega
   ·show (mtF x i t || (decide (UK x i <= t) && decide ((t : Int) < UK x i + ((j + 1 : Nat) : Int)))) = bif _ then true else (mtF x i t || (decide (UK x i <= t) && decide ((t : Int) < UK x i + (j : Int))))
    rw [e]
    by_cases h7 : t = (UK x i).toNat + j
    ·rw [decide_eq_true h7, decide_eq_true (show UK x i <= t by omega), decide_eq_true (show (t : Int) < UK x i + ((j + 1 : Nat) : Int) by omega)]; simp
    ·rw [decide_eq_false h7]
     show _ = (mtF x i t || _)
     congr 2
     exact decide_eq_decide.2 (by omega)
   ·rw [e, eG] at hm
    show (hitJ _ _ _ || _) = false
    rw [y6, hm]; rfl
   ·have e3 : UK x i + (j : Int) = pvB x i := by omega
    show (mtF x i t || _) = (mtF x i t || (decide (UK x i <= t) && decide ((t : Int) < UK x i + (j : Int))))
    rw [e3]
   ·have e3 : (pvB x i - UK x i).toNat = j := by omega
    show (pvK x i && KT x.c (gD x.l i) && !hitJ _ _ _) = true
    rw [e3, y3, y4, y6]; rfl
  ·have e : k = x.l.length := by omega
   subst e
   unfold LC; rw [decide_eq_false hc, ha, hp]; exact ⟨by simp, rfl⟩
theorem COX : AL Try.prog AZC (C_prov.spec dPrv) := okT C_prov (λ (x : Prv) h => by
 have h1 : x.c.ms.length < 4611686018427387904 /\ x.c.ns.length < 4611686018427387904 /\ x.l.length < 4611686018427387904 := h
 by_cases h0 : AJ x.c = 0
 ·have e : C_prov.val x = .tup [.bool (LC x).1, .int (LC x).2] := by
   show AVal.tup [.bool (AME x).1, .int (AME x).2] = _
   unfold AME; rw [h0]; rfl
  rw [e]
  exact QX (A := CIF x) (L := []) (keep := []) (ren := []) (fz := []) BIZ (by kernel_rfl) (AD H9 (AD CYS (AD CBB AI))) (CVR x h1 h0)
 ·have h0' : (AJ x.c == 0) = false := by simpa using h0
  have e : C_prov.val x = .tup [.bool false, .int (AJ x.c)] := by
   show AVal.tup [.bool (AME x).1, .int (AME x).2] = _
   unfold AME; rw [h0']; rfl
  rw [e]
  refine QX (A := CDK) (L := []) (keep := []) (ren := []) (fz := []) BIZ (by kernel_rfl) (AD yV AI) ?_
  show CAS x; rw [CIE]; simp only [CC, eq_self, implies_true, forall_const, BH]
  simp [h1, h0]) _
end Go.Bal
