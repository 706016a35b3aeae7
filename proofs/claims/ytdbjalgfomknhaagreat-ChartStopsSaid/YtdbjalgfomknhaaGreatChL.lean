/- Package chart: Late, Proves. -/
import Derived.Test.YtdbjalgfomknhaaGreatChK
set_option linter.unusedVariables false
set_option linter.unusedSimpArgs false
namespace Go.Bal
open Go Go.Sym Go.Proofs
structure Prv where
 c : Cht
 m : Int
 l : List Pr
def dPrv : List AVal -> Heap -> Option (Prv × List (Nat × Nat) × List Nat)
 | [x, .d m, y], H => match kV x H, xU y H with
  | some (c, f), some (n, g, e) => some (⟨c, HJ m, ME n λ i => dPr (g i)⟩, [], f ++ e)
  | _, _ => none
 | _, _ => none
def xPrv (x : Prv) : List AVal := [.d (Ak x.c), .int x.m, .d (Kw x.l)]
def Aj (x : Prv) (k : Nat) : Int := (nA x.c (gD x.l k)).mi
def yM (x : Prv) (k : Nat) : Int := (nB x.c (gD x.l k)).mi
def mtF (x : Prv) : Nat -> Nat -> Bool
 | 0, _ => false
 | k + 1, i => mtF x k i || (decide (Aj x k <= i) && decide ((i : Int) < yM x k))
def qJ (f : Nat -> Bool) (a : Nat) : Nat -> Bool
 | 0 => false
 | j + 1 => qJ f a j || f (a + j)
def vZ (x : Prv) : Nat -> Bool
 | 0 => true
 | k + 1 => vZ x k && QT x.c (gD x.l k) && !qJ (mtF x k) (Aj x k).toNat (yM x k - Aj x k).toNat
def Cw (x : Prv) : Bool × Int := bif decide ((x.l.length : Int) > 40) then (false, 3) else bif !(x.l.all λ p => PD x.c p) then (false, 2) else (vZ x x.l.length && decide ((x.l.length : Int) >= x.m), 0)
def UA (x : Prv) : Bool × Int := bif AI x.c == 0 then Cw x else (false, AI x.c)
def C_prov : Ctr := { α := Prv, xs := xPrv, val := λ x => .tup [.bool (UA x).1, .int (UA x).2], keep := λ _ => [], pre := λ x => [x.c.ms.length < 4611686018427387904 /\ x.c.ns.length < 4611686018427387904 /\ x.l.length < 4611686018427387904] }
def pvS (x : Prv) (k : Nat) : List (Nat × AVal) := [(1, .int x.m), (2, .d (Kw x.l)), (3, .bptr 201 0), (8, .bptr 203 0), (10, .rptr 205 1 0 0), (33, .d (Kw x.l)), (34, .int x.l.length), (35, .int k)]
def pvH (x : Prv) (f : Nat -> Bool) : List (Nat × HCell) := [(201, .live (gI x.c)), (203, .live (dkB (AY x.c) 204)), (204, .live (dkM (AY x.c))), (205, .live (.row 1 40 λ i => .v (.bool (f i))))]
def pv10 (x : Prv) : Shape := { α := Nat, dflt := 0, T := λ k => ⟨pvS x k, pvH x (mtF x k)⟩, inv := λ k => k <= x.l.length /\ vZ x k = true, meas := λ k => x.l.length - k, first := [(201, 1000), (203, 2016), (204, 2017), (205, 9000)] }
def mtG (x : Prv) (k j : Nat) : Nat -> Bool := λ i => mtF x k i || (decide (Aj x k <= i) && decide ((i : Int) < Aj x k + j))
def pv15 (x : Prv) (m : Nat) : Shape := { α := IJ, dflt := default, T := λ s => ⟨[(12, .bptr 206 0), (13, .int (Aj x s.i + s.j))] ++ pvS x s.i, pvH x (mtG x s.i s.j) ++ [(206, .live (.box [.int (gD x.l s.i).a, .int (gD x.l s.i).b]))]⟩, inv := λ s => (s.i < x.l.length /\ x.l.length - s.i = m) /\ (vZ x s.i = true /\ QT x.c (gD x.l s.i) = true) /\ (Aj x s.i + s.j <= yM x s.i /\ qJ (mtF x s.i) (Aj x s.i).toNat s.j = false), meas := λ s => 50 - s.j, first := [(206, 12032)] }
def BKC (x : Prv) : Ann := { ann 71 [(UF, C_open.spec aM), (n_eP, C4Pp.spec d4Pp), (ABB, C_late.spec dDkP)] with loops := λ id => if id = 10 then some [pv10 x] else none, inner := λ gs id => if id = 15 then some [pv15 x (gs.getD 0 0)] else none }
def BHL (x : Prv) : Prop := CF Try.prog (BKC x) lS (AH lS) (xPrv x) (AB []) (.tup [.bool (Cw x).1, .int (Cw x).2]) [] [] []
abbrev cV (x : Prv) : Prop := x.c.p.lo = x.c.p.lo
abbrev aV (x : Prv) : Prop := x.c.p.hi = x.c.p.hi
abbrev xR (x : Prv) : List Mk := ME x.c.ms.length λ (i : Nat) => gD x.c.ms i
abbrev yT (x : Prv) : Nat := (xR x).length
abbrev AFR (x : Prv) (i : Nat) : Mk := gD (xR x) i
abbrev zD (x : Prv) : List Nt := ME x.c.ns.length λ (i : Nat) => gD x.c.ns i
abbrev xH (x : Prv) : Nat := (zD x).length
abbrev xP (x : Prv) (i : Nat) : Nt := gD (zD x) i
abbrev AEQ (x : Prv) (i : Nat) : Span := (xP x i).t
abbrev AHF (x : Prv) (i : Nat) : Span := (xP x i).s
abbrev I5 (x : Prv) : Cht := Cht.mk x.c.p x.c.base x.c.scale x.c.off (xR x) (zD x)
abbrev nN (x : Prv) : List Pr := ME x.l.length λ (i : Nat) => gD x.l i
abbrev pB (x : Prv) : Nat := (nN x).length
abbrev P1 (x : Prv) (i : Nat) : Pr := gD (nN x) i
abbrev L7 (x : Prv) : Dk := AY (I5 x)
abbrev Lm (x : Prv) : Cht := (L7 x).c
abbrev mX (x : Prv) : Span := (Lm x).p
abbrev qA (x : Prv) : Int := (mX x).lo
abbrev F0 (x : Prv) : Prop := qA x = qA x
abbrev nR (x : Prv) : Int := (mX x).hi
abbrev L2 (x : Prv) : Prop := nR x = nR x
abbrev bC (x : Prv) : Int := (Lm x).base
abbrev C2 (x : Prv) : Prop := bC x = bC x
abbrev cR (x : Prv) : Int := (Lm x).scale
abbrev C9 (x : Prv) : Prop := cR x = cR x
abbrev cA (x : Prv) : Int := (Lm x).off
abbrev R7 (x : Prv) : Prop := cA x = cA x
abbrev S6 (x : Prv) : List Mk := (Lm x).ms
abbrev Tv (x : Prv) : Nat := (S6 x).length
abbrev oW (x : Prv) (i : Nat) : Mk := gD (S6 x) i
abbrev oP (x : Prv) : List Mk := ME (Tv x) λ (i : Nat) => oW x i
abbrev qD (x : Prv) : Nat := (oP x).length
abbrev T8 (x : Prv) (i : Nat) : Mk := gD (oP x) i
abbrev M4 (x : Prv) (i : Nat) : Int := (T8 x i).pl
abbrev pL (x : Prv) (i : Nat) : Int := (oW x i).pl
abbrev P7 (x : Prv) (i : Nat) : Int := (T8 x i).ht
abbrev nX (x : Prv) (i : Nat) : Int := (oW x i).ht
abbrev cJ (x : Prv) : List Nt := (Lm x).ns
abbrev Te (x : Prv) : Nat := (cJ x).length
abbrev cF (x : Prv) (i : Nat) : Nt := gD (cJ x) i
abbrev Tw (x : Prv) : List Nt := ME (Te x) λ (i : Nat) => cF x i
abbrev aS (x : Prv) : Nat := (Tw x).length
abbrev oB (x : Prv) (i : Nat) : Nt := gD (Tw x) i
abbrev M6 (x : Prv) (i : Nat) : Int := (oB x i).mi
abbrev oG (x : Prv) (i : Nat) : Int := (cF x i).mi
abbrev L1 (x : Prv) (i : Nat) : Span := (oB x i).t
abbrev N4 (x : Prv) (i : Nat) : Int := (L1 x i).lo
abbrev F1 (x : Prv) (i : Nat) : Span := (cF x i).t
abbrev pF (x : Prv) (i : Nat) : Int := (F1 x i).lo
abbrev F9 (x : Prv) (i : Nat) : Int := (L1 x i).hi
abbrev oE (x : Prv) (i : Nat) : Int := (F1 x i).hi
abbrev G6 (x : Prv) (i : Nat) : Span := (oB x i).s
abbrev L3 (x : Prv) (i : Nat) : Int := (G6 x i).lo
abbrev D4 (x : Prv) (i : Nat) : Span := (cF x i).s
abbrev pA (x : Prv) (i : Nat) : Int := (D4 x i).lo
abbrev zY (x : Prv) (i : Nat) : Int := (G6 x i).hi
abbrev qB (x : Prv) (i : Nat) : Int := (D4 x i).hi
abbrev Cn : Prop := ∀ (i : Nat), i < 40 -> false = false
abbrev C4 (x : Prv) (n : Int) : Bool := hasN (Tw x) n
abbrev oC (x : Prv) (n : Int) : Bool := hasN (cJ x) n
abbrev pH (x : Prv) (n : Int) : Int := (L7 x).st n
abbrev S4 (x : Prv) : Prop := ∀ (n : Int), pH x n = pH x n
abbrev oJ (x : Prv) (n : Int) : Nt := ntOf (Tw x) n
abbrev S7 (x : Prv) (n : Int) : Int := (oJ x n).mi
abbrev qI (x : Prv) (n : Int) : Nt := ntOf (cJ x) n
abbrev pI (x : Prv) (n : Int) : Int := (qI x n).mi
abbrev Q4 (x : Prv) (n : Int) : Span := (oJ x n).t
abbrev R9 (x : Prv) (n : Int) : Int := (Q4 x n).lo
abbrev F6 (x : Prv) (n : Int) : Span := (qI x n).t
abbrev pU (x : Prv) (n : Int) : Int := (F6 x n).lo
abbrev B7 (x : Prv) (n : Int) : Int := (Q4 x n).hi
abbrev oK (x : Prv) (n : Int) : Int := (F6 x n).hi
abbrev D3 (x : Prv) (n : Int) : Span := (oJ x n).s
abbrev S5 (x : Prv) (n : Int) : Int := (D3 x n).lo
abbrev P2 (x : Prv) (n : Int) : Span := (qI x n).s
abbrev pZ (x : Prv) (n : Int) : Int := (P2 x n).lo
abbrev C7 (x : Prv) (n : Int) : Int := (D3 x n).hi
abbrev pJ (x : Prv) (n : Int) : Int := (P2 x n).hi
abbrev Cm (x : Prv) : Prop := x.l.length = x.l.length
abbrev J1 (x : Prv) (i : Nat) : Prop := (gD x.l i).a = (gD x.l i).a
abbrev G8 (x : Prv) (i : Nat) : Prop := (gD x.l i).b = (gD x.l i).b
abbrev Cp (x : Prv) : Prop := ∀ (i : Nat), i < x.l.length -> J1 x i /\ G8 x i
abbrev aO : Prop := 0 = 0
abbrev aT (x : Prv) : Prop := (↑x.l.length : Int) = (↑x.l.length : Int)
abbrev cB (x : Prv) : Prop := x.c.ms.length = x.c.ms.length
abbrev bI (x : Prv) : Prop := ∀ (i : Nat), i < x.c.ms.length -> (gD x.c.ms i).pl = (gD x.c.ms i).pl /\ (gD x.c.ms i).ht = (gD x.c.ms i).ht
abbrev bJ (x : Prv) : Prop := x.c.ns.length = x.c.ns.length
abbrev aU (x : Prv) : Prop := ∀ (i : Nat), i < x.c.ns.length -> (gD x.c.ns i).mi = (gD x.c.ns i).mi /\ (gD x.c.ns i).t.lo = (gD x.c.ns i).t.lo /\ (gD x.c.ns i).t.hi = (gD x.c.ns i).t.hi /\ (gD x.c.ns i).s.lo = (gD
 x.c.ns i).s.lo /\ (gD x.c.ns i).s.hi = (gD x.c.ns i).s.hi
abbrev oD (i : Nat) (x : Prv) : Prop := i < (AY x.c).c.ms.length
abbrev Tu (x : Prv) (i : Nat) : Int := (gD (AY x.c).c.ms i).pl
abbrev Tl (x : Prv) (i : Nat) : Int := (gD (AY x.c).c.ms i).ht
abbrev oT (i : Nat) (x : Prv) : Prop := i < (AY x.c).c.ns.length
abbrev Tx (x : Prv) (i : Nat) : Int := (gD (AY x.c).c.ns i).mi
abbrev K4 (x : Prv) (i : Nat) : Span := (gD (AY x.c).c.ns i).t
abbrev Tk (x : Prv) (i : Nat) : Int := (K4 x i).lo
abbrev Tt (x : Prv) (i : Nat) : Int := (K4 x i).hi
abbrev O5 (x : Prv) (i : Nat) : Span := (gD (AY x.c).c.ns i).s
abbrev Tp (x : Prv) (i : Nat) : Int := (O5 x i).lo
abbrev Tm (x : Prv) (i : Nat) : Int := (O5 x i).hi
abbrev bE : Prop := 40 = 40
abbrev gQ (a : Nat) (x : Prv) : Prop := a <= x.l.length /\ vZ x a = true
abbrev vC (a : Nat) (x : Prv) : Prop := (↑a : Int) < (↑x.l.length : Int)
abbrev Nk (x : Prv) : Prop := (AY x.c).c.p.lo = (AY x.c).c.p.lo
abbrev Mm (x : Prv) : Prop := (AY x.c).c.p.hi = (AY x.c).c.p.hi
abbrev Lq (x : Prv) : Prop := (AY x.c).c.base = (AY x.c).c.base
abbrev Ms (x : Prv) : Prop := (AY x.c).c.scale = (AY x.c).c.scale
abbrev Ns (x : Prv) : Prop := (AY x.c).c.off = (AY x.c).c.off
abbrev dF (x : Prv) : List Mk := ME (AY x.c).c.ms.length λ (i : Nat) => gD (AY x.c).c.ms i
abbrev Mh (x : Prv) : Nat := (dF x).length
abbrev sH (x : Prv) (i : Nat) : Mk := gD (dF x) i
abbrev sN (x : Prv) (i : Nat) : Int := (sH x i).pl
abbrev uG (x : Prv) (i : Nat) : Int := (sH x i).ht
abbrev Nr (x : Prv) : List Nt := ME (AY x.c).c.ns.length λ (i : Nat) => gD (AY x.c).c.ns i
abbrev Fz (x : Prv) : Nat := (Nr x).length
abbrev tT (i : Nat) (x : Prv) : Prop := i < Fz x
abbrev gP (x : Prv) (i : Nat) : Nt := gD (Nr x) i
abbrev Xa (x : Prv) (i : Nat) : Int := (gP x i).mi
abbrev sV (x : Prv) (i : Nat) : Span := (gP x i).t
abbrev tI (x : Prv) (i : Nat) : Int := (sV x i).lo
abbrev sK (x : Prv) (i : Nat) : Int := (sV x i).hi
abbrev rL (x : Prv) (i : Nat) : Span := (gP x i).s
abbrev uX (x : Prv) (i : Nat) : Int := (rL x i).lo
abbrev tU (x : Prv) (i : Nat) : Int := (rL x i).hi
abbrev vP (x : Prv) (n : Int) : Bool := hasN (Nr x) n
abbrev Mz (x : Prv) : Prop := ∀ (n : Int), (AY x.c).st n = (AY x.c).st n
abbrev fJ (x : Prv) (n : Int) : Nt := ntOf (Nr x) n
abbrev rY (x : Prv) (n : Int) : Int := (fJ x n).mi
abbrev uF (x : Prv) (n : Int) : Span := (fJ x n).t
abbrev vH (x : Prv) (n : Int) : Int := (uF x n).lo
abbrev vN (x : Prv) (n : Int) : Int := (uF x n).hi
abbrev tN (x : Prv) (n : Int) : Span := (fJ x n).s
abbrev rR (x : Prv) (n : Int) : Int := (tN x n).lo
abbrev sR (x : Prv) (n : Int) : Int := (tN x n).hi
abbrev uQ (x : Prv) (a : Nat) : Prop := 0 <= (gD x.l a).a
abbrev tZ (x : Prv) : Prop := (Cw x).snd = 0
abbrev uZ (x : Prv) : Prop := (Cw x).fst = false /\ tZ x
abbrev YE (x : Prv) (a : IJ) : Int := Aj x a.i + (↑a.j : Int)
abbrev dC (x : Prv) : Prop := (AY x.c).c.ms.length = (AY x.c).c.ms.length
abbrev dB (x : Prv) : Prop := ∀ (i : Nat), oD i x -> Tu x i = Tu x i /\ Tl x i = Tl x i
abbrev iE (x : Prv) : Prop := (AY x.c).c.ns.length = (AY x.c).c.ns.length
abbrev gT (x : Prv) : Prop := ∀ (i : Nat), oT i x -> Tx x i = Tx x i /\ Tk x i = Tk x i /\ Tt x i = Tt x i /\ Tp x i = Tp x i /\ Tm x i = Tm
 x i
abbrev dJ (x : Prv) : Prop := ∀ (n : Int), hasN (AY x.c).c.ns n = hasN (AY x.c).c.ns n
abbrev dZ (x : Prv) : Prop := ∀ (n : Int), (ntOf (AY x.c).c.ns n).mi = (ntOf (AY x.c).c.ns n).mi /\ (ntOf (AY x.c).c.ns n).t.lo = (ntOf (AY x.c).c.ns n).t.lo /\ (ntOf (AY x.c).c.ns n).t.hi = (ntOf (AY
 x.c).c.ns n).t.hi /\ (ntOf (AY x.c).c.ns n).s.lo = (ntOf (AY x.c).c.ns n).s.lo /\ (ntOf (AY x.c).c.ns n).s.hi = (ntOf (AY x.c).c.ns n).s.hi
abbrev iC (x : Prv) (a : Nat) : Nat := x.l.length - a
abbrev eI (a : IJ) (x : Prv) (a1 : Nat) : Prop := (a.i < x.l.length /\ x.l.length - a.i = iC x a1) /\ (vZ x a.i = true /\ QT x.c (gD x.l a.i) = true) /\ YE x a <= yM x a.i /\ qJ (mtF x a.i) (Aj
 x a.i).toNat a.j = false
abbrev gH (x : Prv) (a : IJ) : Nat := (YE x a).toNat
abbrev vF (x : Prv) (a : IJ) : Prop := (0 <= YE x a /\ YE x a < (↑40 : Int)) /\ (gH x a).succ.le 40
abbrev vY (a : IJ) : Nat := 50 - a.j
theorem BPS (x : Prv) : (BHL x) = ((cV x /\ aV x /\ x.c.base = x.c.base /\ x.c.scale = x.c.scale /\ x.c.off = x.c.off /\ yT x = x.c.ms.length /\ (∀ (i : Nat), i < yT x -> (AFR x i).pl = (gD
 x.c.ms i).pl /\ (AFR x i).ht = (gD x.c.ms i).ht) /\ xH x = x.c.ns.length /\ (∀ (i : Nat), i < xH x -> (xP x i).mi = (gD x.c.ns i).mi /\ (AEQ x i).lo = (gD x.c.ns i).t.lo /\ (AEQ x i).hi = (gD
 x.c.ns i).t.hi /\ (AHF x i).lo = (gD x.c.ns i).s.lo /\ (AHF x i).hi = (gD x.c.ns i).s.hi) /\ (yT x < 4611686018427387904 /\ xH x < 4611686018427387904) /\ AI (I5 x) = 0) /\ bif decide
 ((↑x.l.length : Int) > 40) then (Cw x).fst = false /\ (Cw x).snd = 3 else (pB x = x.l.length /\ (∀ (i : Nat), i < pB x -> (P1 x i).a = (gD x.l i).a /\ (P1 x i).b = (gD x.l i).b) /\ F0
 x /\ L2 x /\ C2 x /\ C9 x /\ R7 x /\ qD x = Tv x /\ (∀ (i : Nat), i < qD x -> M4 x i = pL x i /\ P7 x i = nX x i) /\ aS x = Te x /\ (∀ (i :
 Nat), i < aS x -> M6 x i = oG x i /\ N4 x i = pF x i /\ F9 x i = oE x i /\ L3 x i = pA x i /\ zY x i = qB x i) /\ Cn /\ lB = lB /\ (∀ (n :
 Int), C4 x n = oC x n) /\ S4 x /\ (∀ (n : Int), S7 x n = pI x n /\ R9 x n = pU x n /\ B7 x n = oK x n /\ S5 x n = pZ x n /\ C7 x n = pJ
 x n) /\ F0 x /\ L2 x /\ C2 x /\ C9 x /\ R7 x /\ Tv x = qD x /\ (∀ (i : Nat), i < Tv x -> pL x i = M4 x i /\ nX x i = P7 x i) /\ Te x =
 aS x /\ (∀ (i : Nat), i < Te x -> oG x i = M6 x i /\ pF x i = N4 x i /\ oE x i = F9 x i /\ pA x i = L3 x i /\ qB x i = zY x i) /\ Cn /\
 lB = lB /\ (∀ (n : Int), oC x n = C4 x n) /\ S4 x /\ (∀ (n : Int), pI x n = S7 x n /\ pU x n = R9 x n /\ oK x n = B7 x n /\ pZ x n = S5 x n /\
 pJ x n = C7 x n) /\ pB x < 4611686018427387904 /\ aS x < 1073741824) /\ bif !(nN x).all λ (x_1 : Pr) => PD (Cht.mk (mX x) (bC x) (cR x) (cA x) (oP
 x) (Tw x)) x_1 then (Cw x).fst = false /\ (Cw x).snd = 2 else (Value.agg #[Value.bool false, Value.bool false, Value.bool false, Value.bool false, Value.bool false, Value.bool false, Value.bool false,
 Value.bool false, Value.bool false, Value.bool false, Value.bool false, Value.bool false, Value.bool false, Value.bool false, Value.bool false, Value.bool false, Value.bool false, Value.bool false, Value.bool false,
 Value.bool false, Value.bool false, Value.bool false, Value.bool false, Value.bool false, Value.bool false, Value.bool false, Value.bool false, Value.bool false, Value.bool false, Value.bool false, Value.bool false,
 Value.bool false, Value.bool false, Value.bool false, Value.bool false, Value.bool false, Value.bool false, Value.bool false, Value.bool false, Value.bool false]).cells.toList = (List.replicate 40 (Value.bool
 false).cells.toList).flatten /\ (∃ (a : Nat), (x.m = x.m /\ Cm x /\ Cp x /\ aO /\ Cm x /\ Cp x /\ aT x /\ (↑a : Int) = 0 /\ cV x /\ aV x /\ x.c.base = x.c.base /\ x.c.scale =
 x.c.scale /\ x.c.off = x.c.off /\ cB x /\ bI x /\ bJ x /\ aU x /\ (AY x.c).c.p.lo = qA x /\ (AY x.c).c.p.hi = nR x /\ (AY x.c).c.base = bC x /\ (AY x.c).c.scale = cR
 x /\ (AY x.c).c.off = cA x /\ (AY x.c).c.ms.length = Tv x /\ (∀ (i : Nat), oD i x -> Tu x i = pL x i /\ Tl x i = nX x i) /\ (AY x.c).c.ns.length = Te x /\ (∀ (i :
 Nat), oT i x -> Tx x i = oG x i /\ Tk x i = pF x i /\ Tt x i = oE x i /\ Tp x i = pA x i /\ Tm x i = qB x i) /\ Cn /\ lB = lB /\ (∀ (n : Int),
 hasN (AY x.c).c.ns n = oC x n) /\ (∀ (n : Int), (AY x.c).st n = pH x n) /\ (∀ (n : Int), (ntOf (AY x.c).c.ns n).mi = pI x n /\ (ntOf (AY x.c).c.ns n).t.lo = pU x n /\ (ntOf (AY x.c).c.ns
 n).t.hi = oK x n /\ (ntOf (AY x.c).c.ns n).s.lo = pZ x n /\ (ntOf (AY x.c).c.ns n).s.hi = pJ x n) /\ bE /\ ∀ (i : Nat), i < 40 -> mtF x a i = false) /\ gQ a x) /\ ∀ (a : Nat), gQ
 a x -> bif decide (vC a x) then (0 <= (↑a : Int) /\ vC a x) /\ (J1 x a /\ G8 x a /\ Nk x /\ Mm x /\ Lq x /\ Ms x /\ Ns x /\ Mh x = (AY x.c).c.ms.length
 /\ (∀ (i : Nat), i < Mh x -> sN x i = Tu x i /\ uG x i = Tl x i) /\ Fz x = (AY x.c).c.ns.length /\ (∀ (i : Nat), tT i x -> Xa x i = Tx x i /\ tI x i
 = Tk x i /\ sK x i = Tt x i /\ uX x i = Tp x i /\ tU x i = Tm x i) /\ Cn /\ lB = lB /\ (∀ (n : Int), vP x n = hasN (AY x.c).c.ns n) /\ Mz x /\ (∀ (n
 : Int), rY x n = (ntOf (AY x.c).c.ns n).mi /\ vH x n = (ntOf (AY x.c).c.ns n).t.lo /\ vN x n = (ntOf (AY x.c).c.ns n).t.hi /\ rR x n = (ntOf (AY x.c).c.ns n).s.lo /\ sR x n =
 (ntOf (AY x.c).c.ns n).s.hi) /\ Nk x /\ Mm x /\ Lq x /\ Ms x /\ Ns x /\ (AY x.c).c.ms.length = Mh x /\ (∀ (i : Nat), oD i x -> Tu x i = sN x i /\ Tl
 x i = uG x i) /\ (AY x.c).c.ns.length = Fz x /\ (∀ (i : Nat), oT i x -> Tx x i = Xa x i /\ Tk x i = tI x i /\ Tt x i = sK x i /\ Tp x i = uX
 x i /\ Tm x i = tU x i) /\ Cn /\ lB = lB /\ (∀ (n : Int), hasN (AY x.c).c.ns n = vP x n) /\ Mz x /\ (∀ (n : Int), (ntOf (AY x.c).c.ns n).mi = rY x n /\ (ntOf (AY x.c).c.ns
 n).t.lo = vH x n /\ (ntOf (AY x.c).c.ns n).t.hi = vN x n /\ (ntOf (AY x.c).c.ns n).s.lo = rR x n /\ (ntOf (AY x.c).c.ns n).s.hi = sR x n) /\ ((uQ x a /\ (gD x.l a).a <
 (↑(Fz x) : Int)) /\ 0 <= (gD x.l a).b /\ (gD x.l a).b < (↑(Fz x) : Int)) /\ (Mh x <= 40 /\ Fz x <= 20) /\ ∀ (i : Nat), tT i x -> 0 <= Xa x i /\ Xa x i < (↑(Mh x) :
 Int)) /\ bif !QT (Cht.mk (AY x.c).c.p (AY x.c).c.base (AY x.c).c.scale (AY x.c).c.off (dF x) (Nr x)) (gD x.l a) then uZ x else (uQ x a /\ (gD x.l a).a < (↑x.c.ns.length : Int)) /\
 (∃ (a_2 : IJ), (YE x a_2 = (gD x.c.ns (gD x.l a).a.toNat).mi /\ x.m = x.m /\ Cm x /\ Cp x /\ aO /\ Cm x /\ Cp x /\ aT x /\ (↑a_2.i : Int) = (↑a : Int) /\ cV x /\ aV x /\
 x.c.base = x.c.base /\ x.c.scale = x.c.scale /\ x.c.off = x.c.off /\ cB x /\ bI x /\ bJ x /\ aU x /\ Nk x /\ Mm x /\ Lq x /\ Ms x /\ Ns x /\ dC x /\
 dB x /\ iE x /\ gT x /\ Cn /\ lB = lB /\ dJ x /\ Mz x /\ dZ x /\ bE /\ (∀ (i : Nat), i < 40 -> mtG x a_2.i a_2.j i = mtF x a i) /\ (gD x.l a_2.i).a = (gD x.l a).a /\
 (gD x.l a_2.i).b = (gD x.l a).b) /\ eI a_2 x a) /\ ∀ (a_2 : IJ), eI a_2 x a -> (0 <= (gD x.l a_2.i).b /\ (gD x.l a_2.i).b < (↑x.c.ns.length : Int)) /\ bif decide (YE x a_2 < (gD x.c.ns (gD x.l
 a_2.i).b.toNat).mi) then vF x a_2 /\ bif mtG x a_2.i a_2.j (gH x a_2) then uZ x else vF x a_2 /\ ∃ (a_4 : IJ), (YE x a_4 = IntKind.i64.wrap (YE x a_2 + 1) /\ x.m = x.m /\
 Cm x /\ Cp x /\ aO /\ Cm x /\ Cp x /\ aT x /\ (↑a_4.i : Int) = (↑a_2.i : Int) /\ cV x /\ aV x /\ x.c.base = x.c.base /\ x.c.scale = x.c.scale /\ x.c.off = x.c.off /\ cB x
 /\ bI x /\ bJ x /\ aU x /\ Nk x /\ Mm x /\ Lq x /\ Ms x /\ Ns x /\ dC x /\ dB x /\ iE x /\ gT x /\ Cn /\ lB = lB /\ dJ x /\
 Mz x /\ dZ x /\ bE /\ (∀ (i : Nat), i < 40 -> mtG x a_4.i a_4.j i = bif decide (i = gH x a_2) then true else mtG x a_2.i a_2.j i) /\ (gD x.l a_4.i).a = (gD x.l a_2.i).a /\ (gD x.l a_4.i).b = (gD
 x.l a_2.i).b) /\ eI a_4 x a /\ vY a_4 < vY a_2 else ∃ (a_4 : Nat), (x.m = x.m /\ Cm x /\ Cp x /\ aO /\ Cm x /\ Cp x /\ aT x /\ (↑a_4 : Int) = IntKind.i64.wrap
 ((↑a_2.i : Int) + 1) /\ cV x /\ aV x /\ x.c.base = x.c.base /\ x.c.scale = x.c.scale /\ x.c.off = x.c.off /\ cB x /\ bI x /\ bJ x /\ aU x /\ Nk x /\ Mm x /\ Lq x /\
 Ms x /\ Ns x /\ dC x /\ dB x /\ iE x /\ gT x /\ Cn /\ lB = lB /\ dJ x /\ Mz x /\ dZ x /\ bE /\ ∀ (i : Nat), i < 40 -> mtF x a_4 i = mtG x a_2.i
 a_2.j i) /\ gQ a_4 x /\ iC x a_4 < iC x a else (Cw x).fst = decide ((↑x.l.length : Int) >= x.m) /\ tZ x) := by kernel_rfl
def AYK : Ann := ann 71 [(UF, C_openX.spec aM)]
def AZL (x : Prv) : Prop := CF Try.prog AYK lS (AH lS) (xPrv x) (AB []) (.tup [.bool false, .int (AI x.c)]) [] [] []
abbrev mP:=Prv.c
attribute [go_sem] mP
theorem BIE (x : Prv) : (AZL x) = (SA (mP x) (mP x) (Hb (mP x) (mP x)) (UV (SQ (mP x))) (ED (XN (mP x)) We (PY (mP x) (SQ (mP x))) (ED (XS (BE (IE (Prv.l x))) 40) We (PY (mP x) 3) KG))) := by kernel_rfl
theorem AAD {c : Cht} {p : Pr} (hn : c.ns.length < 1073741824) (h : PD c p = true) : ((0 <= p.a /\ p.a < c.ns.length) /\ 0 <= p.b /\ p.b < c.ns.length) /\ (nA c p).mi < (nB c p).mi := by
 unfold PD at h
 cases hq : Ym c.ns.length p with
 | false => rw [hq] at h; cases h
 | true =>
  rw [hq] at h
  have h : (bif (!(p.a == p.b && p.b == p.a)) then decide ((nA c p).mi < (nB c p).mi) else false) = true := h
  unfold Ym wr TD at hq
  rw [TC (by omega) (by omega)] at hq
  simp only [Bool.and_eq_true, decide_eq_true_eq] at hq
  refine ⟨⟨by omega, by omega⟩, ?_⟩
  cases hb : (!(p.a == p.b && p.b == p.a)) with
  | false => rw [hb] at h; cases h
  | true => rw [hb] at h; exact of_decide_eq_true h
theorem ASW {x : Prv} : ∀ {m k : Nat}, k <= m -> vZ x m = true -> vZ x k = true
 | 0, k, h, hm => by
  obtain rfl : k = 0 := by omega
  rfl
 | m + 1, k, h, hm => by
  by_cases hk : k = m + 1
  ·subst hk; exact hm
  ·have h2 : (vZ x m && QT x.c (gD x.l m) && !qJ (mtF x m) (Aj x m).toNat (yM x m - Aj x m).toNat) = true := hm
   rw [Bool.and_eq_true, Bool.and_eq_true] at h2
   exact ASW (by omega) h2.1.1
theorem BFR {f : Nat -> Bool} {a : Nat} : ∀ {m k : Nat}, k <= m -> qJ f a k = true -> qJ f a m = true
 | 0, k, h, hm => by
  obtain rfl : k = 0 := by omega
  exact hm
 | m + 1, k, h, hm => by
  by_cases hk : k = m + 1
  ·subst hk; exact hm
  ·show (qJ f a m || f (a + m)) = true
   rw [BFR (show k <= m by omega) hm]; rfl
theorem BAN {x : Prv} (h1 : ¬(x.l.length : Int) > 40) (h2 : (x.l.all λ p => PD x.c p) = true) {k : Nat} (hk : k < x.l.length) (h3 : vZ x (k + 1) = false) : (Cw x).1 = false /\ (Cw x).2 = 0 := by
 have h : vZ x x.l.length = false := by
  cases hq : vZ x x.l.length with
  | false => rfl
  | true => rw [ASW (show k + 1 <= x.l.length from hk) hq] at h3; cases h3
 unfold Cw; rw [decide_eq_false h1, h2, h]; exact ⟨rfl, rfl⟩
theorem BYO (x : Prv) (h1 : x.c.ms.length < 4611686018427387904 /\ x.c.ns.length < 4611686018427387904 /\ x.l.length < 4611686018427387904) (h0 : AI x.c = 0) : BHL x := by
 have hl := OR h0
 have hs := eT h0
 have hM := BDJ hs.1
 rw [BPS]; delta cV aV xR yT AFR zD xH xP AEQ AHF I5 nN pB P1 L7 Lm mX qA F0 nR L2 bC C2 cR C9 cA R7 S6 Tv oW oP qD T8 M4 pL P7 nX cJ Te cF Tw aS oB M6 oG L1 N4 F1 pF F9 oE G6 L3 D4 pA zY qB Cn C4 oC pH S4 oJ S7 qI pI Q4 R9 F6 pU B7 oK D3 S5 P2 pZ C7 pJ Cm J1 G8 Cp aO aT cB bI bJ aU oD Tu Tl oT Tx K4 Tk Tt O5 Tp Tm bE gQ vC Nk Mm Lq Ms Ns dF Mh sH sN uG Nr Fz tT gP Xa sV tI sK rL uX tU vP Mz fJ rY uF vH vN tN rR sR uQ tZ uZ YE dC dB iE gT dJ dZ iC eI gH vF vY; simp only [CC, eq_self, implies_true, forall_const, CL, rZ, Ws, AKB, wN, BFI]
 refine ⟨⟨⟨h1.1, h1.2.1⟩, h0⟩, λ hc => ?_, λ hc => ⟨⟨h1.2.2, by omega⟩, λ ha => ?_, λ ha => ⟨rfl, ⟨0, ⟨rfl, λ _ _ => rfl⟩, Nat.zero_le _, rfl⟩, ?_⟩⟩⟩
 ·unfold Cw; rw [decide_eq_true hc]; exact ⟨rfl, rfl⟩
 ·unfold Cw; rw [decide_eq_false hc, ha]; exact ⟨rfl, rfl⟩
 ·rintro k ⟨hk, hp⟩
  have hP : ∀ k, k < x.l.length -> _ := λ k hk => AAD (by omega) (List.all_eq_true.1 ha _ (HW hk))
  have mA : ∀ k, k < x.l.length -> 0 <= Aj x k /\ Aj x k < x.c.ms.length := λ k hk => hM _ (by have := (hP k hk).1; omega)
  have mB : ∀ k, k < x.l.length -> 0 <= yM x k /\ yM x k < x.c.ms.length := λ k hk => hM _ (by have := (hP k hk).1; omega)
  have mL : ∀ k, k < x.l.length -> Aj x k < yM x k := λ k hk => (hP k hk).2
  have eB : ∀ k, (gD x.c.ns (gD x.l k).b.toNat).mi = yM x k := λ _ => rfl
  have eA : ∀ k, (gD x.c.ns (gD x.l k).a.toNat).mi = Aj x k := λ _ => rfl
  refine ⟨λ hlt => ⟨⟨by omega, by omega⟩, ⟨(hP k (by omega)).1, ⟨hl.2.1.2, hl.2.2⟩, hM⟩, λ hL => ?_, λ hL => ⟨(hP k (by omega)).1.1, ⟨⟨k, 0⟩, ⟨by rw [eA]; show Aj x k + ((0 : Nat) : Int) = _; omega, rfl, λ i hi => ?_, rfl, rfl⟩, ⟨by show k < _; omega, rfl⟩, ⟨hp, hL⟩, by have := mL k (by omega); show Aj x k + ((0 : Nat) : Int) <= yM x k; omega, rfl⟩, ?_⟩⟩, λ hge => ?_⟩
  ·refine BAN hc ha (k := k) (by omega) ?_
   show (vZ x k && QT x.c (gD x.l k) && _) = false
   rw [hL]; simp
  ·show (mtF x k i || (decide (Aj x k <= i) && decide ((i : Int) < Aj x k + ((0 : Nat) : Int)))) = mtF x k i
   rw [show (decide (Aj x k <= i) && decide ((i : Int) < Aj x k + ((0 : Nat) : Int))) = false by simp, Bool.or_false]
  ·rintro ⟨i, j⟩ ⟨⟨y1, y2⟩, ⟨y3, y4⟩, y5, y6⟩
   dsimp only at y1 y2 y3 y4 y5 y6 ⊢
   simp only [eB]
   have a1 := mA i y1
   have b1 := mB i y1
   have l1 := mL i y1
   have e : (Aj x i + (j : Int)).toNat = (Aj x i).toNat + j := by omega
   have eG : mtG x i j ((Aj x i).toNat + j) = mtF x i ((Aj x i).toNat + j) := by
    show (mtF x i _ || (decide (Aj x i <= _) && decide (_ < Aj x i + (j : Int)))) = _
    rw [decide_eq_false (show ¬(((Aj x i).toNat + j : Nat) : Int) < Aj x i + (j : Int) by omega), Bool.and_false, Bool.or_false]
   refine ⟨(hP i y1).1.2, λ hb => ⟨⟨⟨by omega, by omega⟩, by omega⟩, λ hm => ?_, λ hm => ⟨⟨⟨by omega, by omega⟩, by omega⟩, ⟨i, j + 1⟩, ⟨?_, rfl, λ t ht => ?_, rfl, rfl⟩, ⟨⟨y1, y2⟩, ⟨y3, y4⟩, by show Aj x i + ((j + 1 : Nat) : Int) <= yM x i; omega, ?_⟩, by show 50 - (j + 1) < _; omega⟩⟩, λ hb => ⟨i + 1, ⟨by rw [TC (by omega) (by omega)]; rfl, λ t ht => ?_⟩, ⟨by omega, ?_⟩, by omega⟩⟩
   ·rw [e, eG] at hm
    refine BAN hc ha (k := i) y1 ?_
    have h9 : qJ (mtF x i) (Aj x i).toNat (j + 1) = true := by
     show (qJ _ _ _ || _) = true
     rw [hm, Bool.or_true]
    show (vZ x i && QT x.c (gD x.l i) && !qJ _ _ _) = false
    rw [BFR (show j + 1 <= (yM x i - Aj x i).toNat by omega) h9]; simp
   ·show Aj x i + ((j + 1 : Nat) : Int) = _
    rw [TC (by omega) (by omega)]; omega
   ·show (mtF x i t || (decide (Aj x i <= t) && decide ((t : Int) < Aj x i + ((j + 1 : Nat) : Int)))) = bif _ then true else (mtF x i t || (decide (Aj x i <= t) && decide ((t : Int) < Aj x i + (j : Int))))
    rw [e]
    by_cases h7 : t = (Aj x i).toNat + j
    ·rw [decide_eq_true h7, decide_eq_true (show Aj x i <= t by omega), decide_eq_true (show (t : Int) < Aj x i + ((j + 1 : Nat) : Int) by omega)]; simp
    ·rw [decide_eq_false h7]
     show _ = (mtF x i t || _)
     congr 2
     exact decide_eq_decide.2 (by omega)
   ·rw [e, eG] at hm
    show (qJ _ _ _ || _) = false
    rw [y6, hm]; rfl
   ·have e3 : Aj x i + (j : Int) = yM x i := by omega
    show (mtF x i t || _) = (mtF x i t || (decide (Aj x i <= t) && decide ((t : Int) < Aj x i + (j : Int))))
    rw [e3]
   ·have e3 : (yM x i - Aj x i).toNat = j := by omega
    show (vZ x i && QT x.c (gD x.l i) && !qJ _ _ _) = true
    rw [e3, y3, y4, y6]; rfl
  ·have e : k = x.l.length := by omega
   subst e
   unfold Cw; rw [decide_eq_false hc, ha, hp]; exact ⟨by simp, rfl⟩
theorem AYO : AK Try.prog zH (C_prov.spec dPrv) := okT C_prov (λ (x : Prv) h => by
 have h1 : x.c.ms.length < 4611686018427387904 /\ x.c.ns.length < 4611686018427387904 /\ x.l.length < 4611686018427387904 := h
 by_cases h0 : AI x.c = 0
 ·have e : C_prov.val x = .tup [.bool (Cw x).1, .int (Cw x).2] := by
   show AVal.tup [.bool (UA x).1, .int (UA x).2] = _
   unfold UA; rw [h0]; rfl
  rw [e]
  exact Pn (A := BKC x) (L := []) (keep := []) (ren := []) (fz := []) AJU (by kernel_rfl) (AA pG (AA CBI (AA ALJ AC))) (BYO x h1 h0)
 ·have h0' : (AI x.c == 0) = false := by simpa using h0
  have e : C_prov.val x = .tup [.bool false, .int (AI x.c)] := by
   show AVal.tup [.bool (UA x).1, .int (UA x).2] = _
   unfold UA; rw [h0']; rfl
  rw [e]
  refine Pn (A := AYK) (L := []) (keep := []) (ren := []) (fz := []) AJU (by kernel_rfl) (AA jS AC) ?_
  show AZL x; rw [BIE]<;> delta JH Hi BI BF EN EB EA BY AF CN CO AS BE EC ET GW FK HV IB HK GV FU HC DV FW EY LD XS SI KG Lc IE mP AD CI AU FT GN AG GK AZ AX AE FA GQ AW JP BL BD AO AR DD BA BK II JQ BO BJ CX BW BV AJ AQ JD AV EH NH CK AN AL JE JO FO MR AM IV FD ES CG IW JA EZ EV EQ CU FH EW DU ED HR FZ GI BN GA GC HD IS BP BH BG LM HB IN SQ PY MH PV RP Cc XN Ft YW UV XV SA Hb We; simp only [CC, eq_self, implies_true, forall_const, CL]
  simp [h1, h0]) _
structure CP where
 c : Cht
 p : Pr
def dCP : List AVal -> Heap -> Option (CP × List (Nat × Nat) × List Nat)
 | [x, .d p], H => match kV x H with
  | some (c, f) => some (⟨c, dPr p⟩, [], f)
  | none => none
 | _, _ => none
def xCP (x : CP) : List AVal := [.d (Ak x.c), .d (ePr x.p)]
def J7 (x : CP) : Bool × Int := bif PD x.c x.p then (QT x.c x.p, 0) else (false, 2)
def Zh (x : CP) : Bool × Int := bif AI x.c == 0 then J7 x else (false, AI x.c)
def C_Late : Ctr := { α := CP, xs := xCP, val := λ x => .tup [.bool (Zh x).1, .int (Zh x).2], keep := λ _ => [], pre := λ x => [x.c.ms.length < 4611686018427387904 /\ x.c.ns.length < 4611686018427387904] }
def BHF : Ann := ann 25 [(UF, C_open.spec aM), (ACF, C_pair.spec dDkP), (ABB, C_late.spec dDkP)]
def BLC (x : CP) : Prop := CF Try.prog BHF ABM (AH ABM) (xCP x) (AB []) (.tup [.bool (J7 x).1, .int (J7 x).2]) [] [] []
abbrev iS:=@Prod.fst Bool Int
abbrev aZ:=@Prod.snd Bool Int
abbrev CY:=CP.c
abbrev Sm:=CP.p
abbrev JK a:=AKM (CY a) (CY a) (CY a)
abbrev VF a:=QS (Sm a)
abbrev TJ a:=QW (Sm a)
abbrev Du a:=CU (CY a)
abbrev aF a:=AJ (CY a)
attribute [go_sem] iS aZ CY Sm JK VF TJ Du aF
theorem BME (x : CP) : (BLC x) = (TV (aF x) (AL (CY x)) (XV (CY x) (Hb (CY x) (CY x)) (LB (Du x))) (And (AE (TJ x)) (DT (AE (VF x)) (AJ (JK x)) (AL (JK x)) (AM (JK x)) (AN (JK x)) (AQ (JK x)) (MP (BP (JK x)) (λ i=>BH i (JK x)) (BN (JK x)) (λ i=>BG i (JK x)) ML BQ (λ i=>LU (JK x) i) (NK (Du x)) (AR (FM (JK x)) (AJ (JK x)) (AL (JK x)) (AM (JK x)) (AN (JK x)) (AQ (JK x)) (FI (JK x)) (IA (JK x)) (JY (FJ (JK x)) (λ i=>CQ i (JK x)) ML (HP (JK x)) (NK (Du x)) (λ i=>LN (JK x) i) (Ma (JK x)) FL))))) (ED (not (Ht (CU (JK x)) (Sm x))) (GR (iS (J7 x))) (AS (aZ (J7 x)) 2) (AD (AR (AE (TJ x)) (AE (VF x)) (AJ (JK x)) (AL (JK x)) (AM (JK x)) (AN (JK x)) (AQ (JK x)) (BP (JK x)) (PN (JK x) (BN (JK x)) (λ i=>BG i (JK x)) ML BQ (NJ (JK x)) (NK (Du x)) (FM (JK x)) (LX (JK x) (CW (JS (JK x)) Ny BQ (HP (JK x)) (NK (Du x)) (SC (JK x)) (SB (TJ x) (FD (JK x)) (VF x)) (Lu (EH (JK x)) 40 (FD (JK x)) 20) (AF (λ i=>Iq i (FD (JK x)) (BX (NM (JK x) i)) (NM (JK x) i) (EH (JK x)))))))) (JH (iS (J7 x)) (Xw (CU (JK x)) (Sm x))) (IM (aZ (J7 x)))))) := by kernel_rfl
def AYR : Ann := ann 25 [(UF, C_openX.spec aM)]
def BAG (x : CP) : Prop := CF Try.prog AYR ABM (AH ABM) (xCP x) (AB []) (.tup [.bool false, .int (AI x.c)]) [] [] []
theorem BEJ (x : CP) : (BAG x) = (SA (CY x) (CY x) (Hb (CY x) (CY x)) (UV (SQ (CY x))) (ED (XN (CY x)) We (PY (CY x) (SQ (CY x))) KG)) := by kernel_rfl
theorem BNY : AK Try.prog AUH (C_Late.spec dCP) := okT C_Late (λ (x : CP) h => by
 have h1 : x.c.ms.length < 4611686018427387904 /\ x.c.ns.length < 4611686018427387904 := h
 by_cases h0 : AI x.c = 0
 ·have hl := OR h0
  have hs := eT h0
  have hM := BDJ hs.1
  have e : C_Late.val x = .tup [.bool (J7 x).1, .int (J7 x).2] := by
   show AVal.tup [.bool (Zh x).1, .int (Zh x).2] = _
   unfold Zh; rw [h0]; rfl
  rw [e]
  refine Pn (A := BHF) (L := []) (keep := []) (ren := []) (fz := []) BAX (by kernel_rfl) (AA pG (AA BAU (AA ALJ AC))) ?_
  show BLC x; rw [BME]<;> delta JH Hi BI BF EN EB EA BY AF CN CO AS BE EU EC FY MN ET GW FK HV IB HK GV FU HC DV FW EY LD FL QU EK OK AP Le QW QS Ht Xw iS aZ CY Sm AD CI AU FT BS GN AG GK AZ AX AE FA GQ AW JP BL BD AO AR DD BA BK II NC JQ BO BJ CX BW BV AJ AQ NU JD AV EH NH CK AN AL LH JE JO FX FQ FO MR AM IV FD Db AKM DK ES BX CG OX PI IW JA CE CW EZ BQ Kq XE EV WP EQ CU FH EW DU ED HR GT FZ GI BN JK GA GC HD VM IM IH PQ MP Ff Bw MU IS ND MC NM Hp DT LB GU GR VQ BP FJ FI UJ BH BG LM IP VZ Ny YM YJ HB LU HY ZQ Lu ZY NK MJ XZ CQ GD NE ML HP YB Iq HM XT TJ VF PV IA SP ZW FM NJ LN JS RP Ei Du SC SB LX JY YW TV XV PN Ma aF Hb; simp only [CC, eq_self, implies_true, forall_const, CL, rZ, Ws, AKB, wN, BFI]
  refine ⟨⟨h1, h0⟩, ⟨by omega, λ hp => ?_, λ hp => ⟨⟨(AAD (by omega) hp).1, ⟨hl.2.1.2, hl.2.2⟩, hM⟩, ?_⟩⟩⟩
  ·unfold J7; rw [hp]; exact ⟨rfl, rfl⟩
  ·unfold J7; rw [hp]; exact ⟨rfl, rfl⟩
 ·have h0' : (AI x.c == 0) = false := by simpa using h0
  have e : C_Late.val x = .tup [.bool false, .int (AI x.c)] := by
   show AVal.tup [.bool (Zh x).1, .int (Zh x).2] = _
   unfold Zh; rw [h0']; rfl
  rw [e]
  refine Pn (A := AYR) (L := []) (keep := []) (ren := []) (fz := []) BAX (by kernel_rfl) (AA jS AC) ?_
  show BAG x; rw [BEJ]<;> delta JH Hi BI BF EN EB EA BY AF CN CO AS EC ET GW FK HV IB HK GV FU HC DV FW EY LD SI KG Lc CY AD CI AU FT GN AG GK AZ AX AE FA GQ AW JP BL BD AO AR DD BA BK II JQ BO BJ CX BW BV AJ AQ JD AV EH NH CK AN AL JE JO FO MR AM IV FD ES CG IW JA EZ EV EQ CU FH EW DU ED HR FZ GI BN GA GC HD IS BP BH BG LM HB IN SQ PY MH PV RP Cc XN Ft YW UV XV SA Hb We; simp only [CC, eq_self, implies_true, forall_const, CL]
  simp [h1, h0]) _
end Go.Bal
