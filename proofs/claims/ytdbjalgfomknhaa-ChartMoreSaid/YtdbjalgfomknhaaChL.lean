/- Package chart: Late, Proves. -/
import Derived.Test.YtdbjalgfomknhaaChK
set_option linter.unusedVariables false
set_option linter.unusedSimpArgs false
namespace Go.Bal
open Go Go.Sym Go.Proofs
structure Prv where
 c : Cht
 m : Int
 l : List Pr
def dPrv : List AVal -> Heap -> Option (Prv × List (Nat × Nat) × List Nat)
 | [x, .d m, y], H => match COX x H, T5 y H with
  | some (c, f), some (n, g, e) => some (⟨c, CD m, AE n λ i => dPr (g i)⟩, [], f ++ e)
  | _, _ => none
 | _, _ => none
def xPrv (x : Prv) : List AVal := [.d (VZ x.c), .int x.m, .d (Ga x.l)]
def XD (x : Prv) (k : Nat) : Int := (nA x.c (gD x.l k)).mi
def pvB (x : Prv) (k : Nat) : Int := (nB x.c (gD x.l k)).mi
def mtF (x : Prv) : Nat -> Nat -> Bool
 | 0, _ => false
 | k + 1, i => mtF x k i || (decide (XD x k <= i) && decide ((i : Int) < pvB x k))
def hitJ (f : Nat -> Bool) (a : Nat) : Nat -> Bool
 | 0 => false
 | j + 1 => hitJ f a j || f (a + j)
def pvK (x : Prv) : Nat -> Bool
 | 0 => true
 | k + 1 => pvK x k && RJ x.c (gD x.l k) && !hitJ (mtF x k) (XD x k).toNat (pvB x k - XD x k).toNat
def MT (x : Prv) : Bool × Int := bif decide ((x.l.length : Int) > 40) then (false, 3) else bif !(x.l.all λ p => IN x.c p) then (false, 2) else (pvK x x.l.length && decide ((x.l.length : Int) >= x.m), 0)
def BEY (x : Prv) : Bool × Int := bif AO x.c == 0 then MT x else (false, AO x.c)
def C_prov : Ctr := { α := Prv, xs := xPrv, val := λ x => .tup [.bool (BEY x).1, .int (BEY x).2], keep := λ _ => [], pre := λ x => [x.c.ms.length < 4611686018427387904 /\ x.c.ns.length < 4611686018427387904 /\ x.l.length < 4611686018427387904] }
def pvS (x : Prv) (k : Nat) : List (Nat × AVal) := [(1, .int x.m), (2, .d (Ga x.l)), (3, .bptr 201 0), (8, .bptr 203 0), (10, .rptr 205 1 0 0), (33, .d (Ga x.l)), (34, .int x.l.length), (35, .int k)]
def pvH (x : Prv) (f : Nat -> Bool) : List (Nat × HCell) := [(201, .live (chB x.c)), (203, .live (dkB (AG x.c) 204)), (204, .live (dkM (AG x.c))), (205, .live (.row 1 40 λ i => .v (.bool (f i))))]
def pv10 (x : Prv) : Shape := { α := Nat, dflt := 0, T := λ k => ⟨pvS x k, pvH x (mtF x k)⟩, inv := λ k => k <= x.l.length /\ pvK x k = true, meas := λ k => x.l.length - k, first := [(201, 1000), (203, 2016), (204, 2017), (205, 9000)] }
def mtG (x : Prv) (k j : Nat) : Nat -> Bool := λ i => mtF x k i || (decide (XD x k <= i) && decide ((i : Int) < XD x k + j))
def pv15 (x : Prv) (m : Nat) : Shape := { α := IJ, dflt := default, T := λ s => ⟨[(12, .bptr 206 0), (13, .int (XD x s.i + s.j))] ++ pvS x s.i, pvH x (mtG x s.i s.j) ++ [(206, .live (.box [.int (gD x.l s.i).a, .int (gD x.l s.i).b]))]⟩, inv := λ s => (s.i < x.l.length /\ x.l.length - s.i = m) /\ (pvK x s.i = true /\ RJ x.c (gD x.l s.i) = true) /\ (XD x s.i + s.j <= pvB x s.i /\ hitJ (mtF x s.i) (XD x s.i).toNat s.j = false), meas := λ s => 50 - s.j, first := [(206, 12032)] }
def CYR (x : Prv) : Ann := { ann 71 [(HG, C_open.spec dC1), (n_eP, C4Pp.spec d4Pp), (CKU, C_late.spec dDkP)] with loops := λ id => if id = 10 then some [pv10 x] else none, inner := λ gs id => if id = 15 then some [pv15 x (gs.getD 0 0)] else none }
def DCS (x : Prv) : Prop := AZ Try.prog (CYR x) Vw (AN Vw) (xPrv x) (AF []) (.tup [.bool (MT x).1, .int (MT x).2]) [] [] []
abbrev Dv (x : Prv) : Prop := x.c.p.lo = x.c.p.lo
abbrev Bn (x : Prv) : Prop := x.c.p.hi = x.c.p.hi
abbrev AAD (x : Prv) : List Mk := AE x.c.ms.length λ (i : Nat) => gD x.c.ms i
abbrev AEA (x : Prv) : Nat := (AAD x).length
abbrev BNG (x : Prv) (i : Nat) : Mk := gD (AAD x) i
abbrev V7 (x : Prv) : List Nt := AE x.c.ns.length λ (i : Nat) => gD x.c.ns i
abbrev ABX (x : Prv) : Nat := (V7 x).length
abbrev ABF (x : Prv) (i : Nat) : Nt := gD (V7 x) i
abbrev BOL (x : Prv) (i : Nat) : Span := (ABF x i).t
abbrev BWC (x : Prv) (i : Nat) : Span := (ABF x i).s
abbrev AZL (x : Prv) : Cht := Cht.mk x.c.p x.c.base x.c.scale x.c.off (AAD x) (V7 x)
abbrev gK (x : Prv) : List Pr := AE x.l.length λ (i : Nat) => gD x.l i
abbrev iH (x : Prv) : Nat := (gK x).length
abbrev ANH (x : Prv) (i : Nat) : Pr := gD (gK x) i
abbrev ALD (x : Prv) : Dk := AG (AZL x)
abbrev OX (x : Prv) : Cht := (ALD x).c
abbrev jC (x : Prv) : Span := (OX x).p
abbrev cT (x : Prv) : Int := (jC x).lo
abbrev APY (x : Prv) : Prop := cT x = cT x
abbrev gA (x : Prv) : Int := (jC x).hi
abbrev ANL (x : Prv) : Prop := gA x = gA x
abbrev Cb (x : Prv) : Int := (OX x).base
abbrev AFO (x : Prv) : Prop := Cb x = Cb x
abbrev Dn (x : Prv) : Int := (OX x).scale
abbrev AMM (x : Prv) : Prop := Dn x = Dn x
abbrev Fi (x : Prv) : Int := (OX x).off
abbrev AUI (x : Prv) : Prop := Fi x = Fi x
abbrev AGA (x : Prv) : List Mk := (OX x).ms
abbrev TO (x : Prv) : Nat := (AGA x).length
abbrev cJ (x : Prv) (i : Nat) : Mk := gD (AGA x) i
abbrev kF (x : Prv) : List Mk := AE (TO x) λ (i : Nat) => cJ x i
abbrev jU (x : Prv) : Nat := (kF x).length
abbrev BCV (x : Prv) (i : Nat) : Mk := gD (kF x) i
abbrev AGG (x : Prv) (i : Nat) : Int := (BCV x i).pl
abbrev fA (x : Prv) (i : Nat) : Int := (cJ x i).pl
abbrev AKU (x : Prv) (i : Nat) : Int := (BCV x i).ht
abbrev iB (x : Prv) (i : Nat) : Int := (cJ x i).ht
abbrev Gn (x : Prv) : List Nt := (OX x).ns
abbrev TZ (x : Prv) : Nat := (Gn x).length
abbrev Cf (x : Prv) (i : Nat) : Nt := gD (Gn x) i
abbrev SO (x : Prv) : List Nt := AE (TZ x) λ (i : Nat) => Cf x i
abbrev Df (x : Prv) : Nat := (SO x).length
abbrev gW (x : Prv) (i : Nat) : Nt := gD (SO x) i
abbrev AGM (x : Prv) (i : Nat) : Int := (gW x i).mi
abbrev lE (x : Prv) (i : Nat) : Int := (Cf x i).mi
abbrev AHJ (x : Prv) (i : Nat) : Span := (gW x i).t
abbrev APA (x : Prv) (i : Nat) : Int := (AHJ x i).lo
abbrev ANB (x : Prv) (i : Nat) : Span := (Cf x i).t
abbrev dM (x : Prv) (i : Nat) : Int := (ANB x i).lo
abbrev ASH (x : Prv) (i : Nat) : Int := (AHJ x i).hi
abbrev iJ (x : Prv) (i : Nat) : Int := (ANB x i).hi
abbrev BEO (x : Prv) (i : Nat) : Span := (gW x i).s
abbrev AJN (x : Prv) (i : Nat) : Int := (BEO x i).lo
abbrev AZB (x : Prv) (i : Nat) : Span := (Cf x i).s
abbrev cR (x : Prv) (i : Nat) : Int := (AZB x i).lo
abbrev ANP (x : Prv) (i : Nat) : Int := (BEO x i).hi
abbrev iN (x : Prv) (i : Nat) : Int := (AZB x i).hi
abbrev JT : Prop := ∀ (i : Nat), i < 40 -> false = false
abbrev AFT (x : Prv) (n : Int) : Bool := hasN (SO x) n
abbrev mI (x : Prv) (n : Int) : Bool := hasN (Gn x) n
abbrev cQ (x : Prv) (n : Int) : Int := (ALD x).st n
abbrev ARV (x : Prv) : Prop := ∀ (n : Int), cQ x n = cQ x n
abbrev pJ (x : Prv) (n : Int) : Nt := ntOf (SO x) n
abbrev AMB (x : Prv) (n : Int) : Int := (pJ x n).mi
abbrev lU (x : Prv) (n : Int) : Nt := ntOf (Gn x) n
abbrev iS (x : Prv) (n : Int) : Int := (lU x n).mi
abbrev APS (x : Prv) (n : Int) : Span := (pJ x n).t
abbrev BBW (x : Prv) (n : Int) : Int := (APS x n).lo
abbrev AHV (x : Prv) (n : Int) : Span := (lU x n).t
abbrev fR (x : Prv) (n : Int) : Int := (AHV x n).lo
abbrev BAA (x : Prv) (n : Int) : Int := (APS x n).hi
abbrev kV (x : Prv) (n : Int) : Int := (AHV x n).hi
abbrev AVM (x : Prv) (n : Int) : Span := (pJ x n).s
abbrev BED (x : Prv) (n : Int) : Int := (AVM x n).lo
abbrev AHR (x : Prv) (n : Int) : Span := (lU x n).s
abbrev cE (x : Prv) (n : Int) : Int := (AHR x n).lo
abbrev AMA (x : Prv) (n : Int) : Int := (AVM x n).hi
abbrev eY (x : Prv) (n : Int) : Int := (AHR x n).hi
abbrev JX (x : Prv) : Prop := x.l.length = x.l.length
abbrev AMD (x : Prv) (i : Nat) : Prop := (gD x.l i).a = (gD x.l i).a
abbrev ARJ (x : Prv) (i : Nat) : Prop := (gD x.l i).b = (gD x.l i).b
abbrev KB (x : Prv) : Prop := ∀ (i : Nat), i < x.l.length -> AMD x i /\ ARJ x i
abbrev Br : Prop := 0 = 0
abbrev Fh (x : Prv) : Prop := (↑x.l.length : Int) = (↑x.l.length : Int)
abbrev Fe (x : Prv) : Prop := x.c.ms.length = x.c.ms.length
abbrev Dd (x : Prv) : Prop := ∀ (i : Nat), i < x.c.ms.length -> (gD x.c.ms i).pl = (gD x.c.ms i).pl /\ (gD x.c.ms i).ht = (gD x.c.ms i).ht
abbrev Cl (x : Prv) : Prop := x.c.ns.length = x.c.ns.length
abbrev Fo (x : Prv) : Prop := ∀ (i : Nat), i < x.c.ns.length -> (gD x.c.ns i).mi = (gD x.c.ns i).mi /\ (gD x.c.ns i).t.lo = (gD x.c.ns i).t.lo /\ (gD x.c.ns i).t.hi = (gD x.c.ns i).t.hi /\ (gD x.c.ns i).s.lo = (gD
 x.c.ns i).s.lo /\ (gD x.c.ns i).s.hi = (gD x.c.ns i).s.hi
abbrev iO (i : Nat) (x : Prv) : Prop := i < (AG x.c).c.ms.length
abbrev TG (x : Prv) (i : Nat) : Int := (gD (AG x.c).c.ms i).pl
abbrev SU (x : Prv) (i : Nat) : Int := (gD (AG x.c).c.ms i).ht
abbrev kK (i : Nat) (x : Prv) : Prop := i < (AG x.c).c.ns.length
abbrev RX (x : Prv) (i : Nat) : Int := (gD (AG x.c).c.ns i).mi
abbrev AXP (x : Prv) (i : Nat) : Span := (gD (AG x.c).c.ns i).t
abbrev UF (x : Prv) (i : Nat) : Int := (AXP x i).lo
abbrev UE (x : Prv) (i : Nat) : Int := (AXP x i).hi
abbrev AFY (x : Prv) (i : Nat) : Span := (gD (AG x.c).c.ns i).s
abbrev RU (x : Prv) (i : Nat) : Int := (AFY x i).lo
abbrev TK (x : Prv) (i : Nat) : Int := (AFY x i).hi
abbrev Bm : Prop := 40 = 40
abbrev Lu (a : Nat) (x : Prv) : Prop := a <= x.l.length /\ pvK x a = true
abbrev vU (a : Nat) (x : Prv) : Prop := (↑a : Int) < (↑x.l.length : Int)
abbrev PB (x : Prv) : Prop := (AG x.c).c.p.lo = (AG x.c).c.p.lo
abbrev NM (x : Prv) : Prop := (AG x.c).c.p.hi = (AG x.c).c.p.hi
abbrev OG (x : Prv) : Prop := (AG x.c).c.base = (AG x.c).c.base
abbrev NF (x : Prv) : Prop := (AG x.c).c.scale = (AG x.c).c.scale
abbrev OY (x : Prv) : Prop := (AG x.c).c.off = (AG x.c).c.off
abbrev Ij (x : Prv) : List Mk := AE (AG x.c).c.ms.length λ (i : Nat) => gD (AG x.c).c.ms i
abbrev NY (x : Prv) : Nat := (Ij x).length
abbrev sP (x : Prv) (i : Nat) : Mk := gD (Ij x) i
abbrev I8 (x : Prv) (i : Nat) : Int := (sP x i).pl
abbrev yK (x : Prv) (i : Nat) : Int := (sP x i).ht
abbrev OJ (x : Prv) : List Nt := AE (AG x.c).c.ns.length λ (i : Nat) => gD (AG x.c).c.ns i
abbrev KT (x : Prv) : Nat := (OJ x).length
abbrev H5 (i : Nat) (x : Prv) : Prop := i < KT x
abbrev Jo (x : Prv) (i : Nat) : Nt := gD (OJ x) i
abbrev WQ (x : Prv) (i : Nat) : Int := (Jo x i).mi
abbrev zE (x : Prv) (i : Nat) : Span := (Jo x i).t
abbrev uJ (x : Prv) (i : Nat) : Int := (zE x i).lo
abbrev wN (x : Prv) (i : Nat) : Int := (zE x i).hi
abbrev wQ (x : Prv) (i : Nat) : Span := (Jo x i).s
abbrev tV (x : Prv) (i : Nat) : Int := (wQ x i).lo
abbrev zX (x : Prv) (i : Nat) : Int := (wQ x i).hi
abbrev E0 (x : Prv) (n : Int) : Bool := hasN (OJ x) n
abbrev OI (x : Prv) : Prop := ∀ (n : Int), (AG x.c).st n = (AG x.c).st n
abbrev Ih (x : Prv) (n : Int) : Nt := ntOf (OJ x) n
abbrev zD (x : Prv) (n : Int) : Int := (Ih x n).mi
abbrev xU (x : Prv) (n : Int) : Span := (Ih x n).t
abbrev tZ (x : Prv) (n : Int) : Int := (xU x n).lo
abbrev wP (x : Prv) (n : Int) : Int := (xU x n).hi
abbrev wY (x : Prv) (n : Int) : Span := (Ih x n).s
abbrev C8 (x : Prv) (n : Int) : Int := (wY x n).lo
abbrev wT (x : Prv) (n : Int) : Int := (wY x n).hi
abbrev zK (x : Prv) (a : Nat) : Prop := 0 <= (gD x.l a).a
abbrev E9 (x : Prv) : Prop := (MT x).snd = 0
abbrev D0 (x : Prv) : Prop := (MT x).fst = false /\ E9 x
abbrev GY (x : Prv) (a : IJ) : Int := XD x a.i + (↑a.j : Int)
abbrev Lr (x : Prv) : Prop := (AG x.c).c.ms.length = (AG x.c).c.ms.length
abbrev Lp (x : Prv) : Prop := ∀ (i : Nat), iO i x -> TG x i = TG x i /\ SU x i = SU x i
abbrev Hr (x : Prv) : Prop := (AG x.c).c.ns.length = (AG x.c).c.ns.length
abbrev Ht (x : Prv) : Prop := ∀ (i : Nat), kK i x -> RX x i = RX x i /\ UF x i = UF x i /\ UE x i = UE x i /\ RU x i = RU x i /\ TK x i = TK
 x i
abbrev Jd (x : Prv) : Prop := ∀ (n : Int), hasN (AG x.c).c.ns n = hasN (AG x.c).c.ns n
abbrev Jf (x : Prv) : Prop := ∀ (n : Int), (ntOf (AG x.c).c.ns n).mi = (ntOf (AG x.c).c.ns n).mi /\ (ntOf (AG x.c).c.ns n).t.lo = (ntOf (AG x.c).c.ns n).t.lo /\ (ntOf (AG x.c).c.ns n).t.hi = (ntOf (AG
 x.c).c.ns n).t.hi /\ (ntOf (AG x.c).c.ns n).s.lo = (ntOf (AG x.c).c.ns n).s.lo /\ (ntOf (AG x.c).c.ns n).s.hi = (ntOf (AG x.c).c.ns n).s.hi
abbrev Jr (x : Prv) (a : Nat) : Nat := x.l.length - a
abbrev Ha (a : IJ) (x : Prv) (a1 : Nat) : Prop := (a.i < x.l.length /\ x.l.length - a.i = Jr x a1) /\ (pvK x a.i = true /\ RJ x.c (gD x.l a.i) = true) /\ GY x a <= pvB x a.i /\ hitJ (mtF x a.i) (XD
 x a.i).toNat a.j = false
abbrev Kp (x : Prv) (a : IJ) : Nat := (GY x a).toNat
abbrev zO (x : Prv) (a : IJ) : Prop := (0 <= GY x a /\ GY x a < (↑40 : Int)) /\ (Kp x a).succ.le 40
abbrev E1 (a : IJ) : Nat := 50 - a.j
theorem DIF (x : Prv) : (DCS x) = ((Dv x /\ Bn x /\ x.c.base = x.c.base /\ x.c.scale = x.c.scale /\ x.c.off = x.c.off /\ AEA x = x.c.ms.length /\ (∀ (i : Nat), i < AEA x -> (BNG x i).pl = (gD
 x.c.ms i).pl /\ (BNG x i).ht = (gD x.c.ms i).ht) /\ ABX x = x.c.ns.length /\ (∀ (i : Nat), i < ABX x -> (ABF x i).mi = (gD x.c.ns i).mi /\ (BOL x i).lo = (gD x.c.ns i).t.lo /\ (BOL x i).hi = (gD
 x.c.ns i).t.hi /\ (BWC x i).lo = (gD x.c.ns i).s.lo /\ (BWC x i).hi = (gD x.c.ns i).s.hi) /\ (AEA x < 4611686018427387904 /\ ABX x < 4611686018427387904) /\ AO (AZL x) = 0) /\ bif decide
 ((↑x.l.length : Int) > 40) then (MT x).fst = false /\ (MT x).snd = 3 else (iH x = x.l.length /\ (∀ (i : Nat), i < iH x -> (ANH x i).a = (gD x.l i).a /\ (ANH x i).b = (gD x.l i).b) /\ APY
 x /\ ANL x /\ AFO x /\ AMM x /\ AUI x /\ jU x = TO x /\ (∀ (i : Nat), i < jU x -> AGG x i = fA x i /\ AKU x i = iB x i) /\ Df x = TZ x /\ (∀ (i :
 Nat), i < Df x -> AGM x i = lE x i /\ APA x i = dM x i /\ ASH x i = iJ x i /\ AJN x i = cR x i /\ ANP x i = iN x i) /\ JT /\ AU = AU /\ (∀ (n :
 Int), AFT x n = mI x n) /\ ARV x /\ (∀ (n : Int), AMB x n = iS x n /\ BBW x n = fR x n /\ BAA x n = kV x n /\ BED x n = cE x n /\ AMA x n = eY
 x n) /\ APY x /\ ANL x /\ AFO x /\ AMM x /\ AUI x /\ TO x = jU x /\ (∀ (i : Nat), i < TO x -> fA x i = AGG x i /\ iB x i = AKU x i) /\ TZ x =
 Df x /\ (∀ (i : Nat), i < TZ x -> lE x i = AGM x i /\ dM x i = APA x i /\ iJ x i = ASH x i /\ cR x i = AJN x i /\ iN x i = ANP x i) /\ JT /\
 AU = AU /\ (∀ (n : Int), mI x n = AFT x n) /\ ARV x /\ (∀ (n : Int), iS x n = AMB x n /\ fR x n = BBW x n /\ kV x n = BAA x n /\ cE x n = BED x n /\
 eY x n = AMA x n) /\ iH x < 4611686018427387904 /\ Df x < 1073741824) /\ bif !(gK x).all λ (x_1 : Pr) => IN (Cht.mk (jC x) (Cb x) (Dn x) (Fi x) (kF
 x) (SO x)) x_1 then (MT x).fst = false /\ (MT x).snd = 2 else (Value.agg #[Value.bool false, Value.bool false, Value.bool false, Value.bool false, Value.bool false, Value.bool false, Value.bool false,
 Value.bool false, Value.bool false, Value.bool false, Value.bool false, Value.bool false, Value.bool false, Value.bool false, Value.bool false, Value.bool false, Value.bool false, Value.bool false, Value.bool false,
 Value.bool false, Value.bool false, Value.bool false, Value.bool false, Value.bool false, Value.bool false, Value.bool false, Value.bool false, Value.bool false, Value.bool false, Value.bool false, Value.bool false,
 Value.bool false, Value.bool false, Value.bool false, Value.bool false, Value.bool false, Value.bool false, Value.bool false, Value.bool false, Value.bool false]).cells.toList = (List.replicate 40 (Value.bool
 false).cells.toList).flatten /\ (∃ (a : Nat), (x.m = x.m /\ JX x /\ KB x /\ Br /\ JX x /\ KB x /\ Fh x /\ (↑a : Int) = 0 /\ Dv x /\ Bn x /\ x.c.base = x.c.base /\ x.c.scale =
 x.c.scale /\ x.c.off = x.c.off /\ Fe x /\ Dd x /\ Cl x /\ Fo x /\ (AG x.c).c.p.lo = cT x /\ (AG x.c).c.p.hi = gA x /\ (AG x.c).c.base = Cb x /\ (AG x.c).c.scale = Dn
 x /\ (AG x.c).c.off = Fi x /\ (AG x.c).c.ms.length = TO x /\ (∀ (i : Nat), iO i x -> TG x i = fA x i /\ SU x i = iB x i) /\ (AG x.c).c.ns.length = TZ x /\ (∀ (i :
 Nat), kK i x -> RX x i = lE x i /\ UF x i = dM x i /\ UE x i = iJ x i /\ RU x i = cR x i /\ TK x i = iN x i) /\ JT /\ AU = AU /\ (∀ (n : Int),
 hasN (AG x.c).c.ns n = mI x n) /\ (∀ (n : Int), (AG x.c).st n = cQ x n) /\ (∀ (n : Int), (ntOf (AG x.c).c.ns n).mi = iS x n /\ (ntOf (AG x.c).c.ns n).t.lo = fR x n /\ (ntOf (AG x.c).c.ns
 n).t.hi = kV x n /\ (ntOf (AG x.c).c.ns n).s.lo = cE x n /\ (ntOf (AG x.c).c.ns n).s.hi = eY x n) /\ Bm /\ ∀ (i : Nat), i < 40 -> mtF x a i = false) /\ Lu a x) /\ ∀ (a : Nat), Lu
 a x -> bif decide (vU a x) then (0 <= (↑a : Int) /\ vU a x) /\ (AMD x a /\ ARJ x a /\ PB x /\ NM x /\ OG x /\ NF x /\ OY x /\ NY x = (AG x.c).c.ms.length
 /\ (∀ (i : Nat), i < NY x -> I8 x i = TG x i /\ yK x i = SU x i) /\ KT x = (AG x.c).c.ns.length /\ (∀ (i : Nat), H5 i x -> WQ x i = RX x i /\ uJ x i
 = UF x i /\ wN x i = UE x i /\ tV x i = RU x i /\ zX x i = TK x i) /\ JT /\ AU = AU /\ (∀ (n : Int), E0 x n = hasN (AG x.c).c.ns n) /\ OI x /\ (∀ (n
 : Int), zD x n = (ntOf (AG x.c).c.ns n).mi /\ tZ x n = (ntOf (AG x.c).c.ns n).t.lo /\ wP x n = (ntOf (AG x.c).c.ns n).t.hi /\ C8 x n = (ntOf (AG x.c).c.ns n).s.lo /\ wT x n =
 (ntOf (AG x.c).c.ns n).s.hi) /\ PB x /\ NM x /\ OG x /\ NF x /\ OY x /\ (AG x.c).c.ms.length = NY x /\ (∀ (i : Nat), iO i x -> TG x i = I8 x i /\ SU
 x i = yK x i) /\ (AG x.c).c.ns.length = KT x /\ (∀ (i : Nat), kK i x -> RX x i = WQ x i /\ UF x i = uJ x i /\ UE x i = wN x i /\ RU x i = tV
 x i /\ TK x i = zX x i) /\ JT /\ AU = AU /\ (∀ (n : Int), hasN (AG x.c).c.ns n = E0 x n) /\ OI x /\ (∀ (n : Int), (ntOf (AG x.c).c.ns n).mi = zD x n /\ (ntOf (AG x.c).c.ns
 n).t.lo = tZ x n /\ (ntOf (AG x.c).c.ns n).t.hi = wP x n /\ (ntOf (AG x.c).c.ns n).s.lo = C8 x n /\ (ntOf (AG x.c).c.ns n).s.hi = wT x n) /\ ((zK x a /\ (gD x.l a).a <
 (↑(KT x) : Int)) /\ 0 <= (gD x.l a).b /\ (gD x.l a).b < (↑(KT x) : Int)) /\ (NY x <= 40 /\ KT x <= 20) /\ ∀ (i : Nat), H5 i x -> 0 <= WQ x i /\ WQ x i < (↑(NY x) :
 Int)) /\ bif !RJ (Cht.mk (AG x.c).c.p (AG x.c).c.base (AG x.c).c.scale (AG x.c).c.off (Ij x) (OJ x)) (gD x.l a) then D0 x else (zK x a /\ (gD x.l a).a < (↑x.c.ns.length : Int)) /\
 (∃ (a_2 : IJ), (GY x a_2 = (gD x.c.ns (gD x.l a).a.toNat).mi /\ x.m = x.m /\ JX x /\ KB x /\ Br /\ JX x /\ KB x /\ Fh x /\ (↑a_2.i : Int) = (↑a : Int) /\ Dv x /\ Bn x /\
 x.c.base = x.c.base /\ x.c.scale = x.c.scale /\ x.c.off = x.c.off /\ Fe x /\ Dd x /\ Cl x /\ Fo x /\ PB x /\ NM x /\ OG x /\ NF x /\ OY x /\ Lr x /\
 Lp x /\ Hr x /\ Ht x /\ JT /\ AU = AU /\ Jd x /\ OI x /\ Jf x /\ Bm /\ (∀ (i : Nat), i < 40 -> mtG x a_2.i a_2.j i = mtF x a i) /\ (gD x.l a_2.i).a = (gD x.l a).a /\
 (gD x.l a_2.i).b = (gD x.l a).b) /\ Ha a_2 x a) /\ ∀ (a_2 : IJ), Ha a_2 x a -> (0 <= (gD x.l a_2.i).b /\ (gD x.l a_2.i).b < (↑x.c.ns.length : Int)) /\ bif decide (GY x a_2 < (gD x.c.ns (gD x.l
 a_2.i).b.toNat).mi) then zO x a_2 /\ bif mtG x a_2.i a_2.j (Kp x a_2) then D0 x else zO x a_2 /\ ∃ (a_4 : IJ), (GY x a_4 = IntKind.i64.wrap (GY x a_2 + 1) /\ x.m = x.m /\
 JX x /\ KB x /\ Br /\ JX x /\ KB x /\ Fh x /\ (↑a_4.i : Int) = (↑a_2.i : Int) /\ Dv x /\ Bn x /\ x.c.base = x.c.base /\ x.c.scale = x.c.scale /\ x.c.off = x.c.off /\ Fe x
 /\ Dd x /\ Cl x /\ Fo x /\ PB x /\ NM x /\ OG x /\ NF x /\ OY x /\ Lr x /\ Lp x /\ Hr x /\ Ht x /\ JT /\ AU = AU /\ Jd x /\
 OI x /\ Jf x /\ Bm /\ (∀ (i : Nat), i < 40 -> mtG x a_4.i a_4.j i = bif decide (i = Kp x a_2) then true else mtG x a_2.i a_2.j i) /\ (gD x.l a_4.i).a = (gD x.l a_2.i).a /\ (gD x.l a_4.i).b = (gD
 x.l a_2.i).b) /\ Ha a_4 x a /\ E1 a_4 < E1 a_2 else ∃ (a_4 : Nat), (x.m = x.m /\ JX x /\ KB x /\ Br /\ JX x /\ KB x /\ Fh x /\ (↑a_4 : Int) = IntKind.i64.wrap
 ((↑a_2.i : Int) + 1) /\ Dv x /\ Bn x /\ x.c.base = x.c.base /\ x.c.scale = x.c.scale /\ x.c.off = x.c.off /\ Fe x /\ Dd x /\ Cl x /\ Fo x /\ PB x /\ NM x /\ OG x /\
 NF x /\ OY x /\ Lr x /\ Lp x /\ Hr x /\ Ht x /\ JT /\ AU = AU /\ Jd x /\ OI x /\ Jf x /\ Bm /\ ∀ (i : Nat), i < 40 -> mtF x a_4 i = mtG x a_2.i
 a_2.j i) /\ Lu a_4 x /\ Jr x a_4 < Jr x a else (MT x).fst = decide ((↑x.l.length : Int) >= x.m) /\ E9 x) := by kernel_rfl
def CUT : Ann := ann 71 [(HG, C_openX.spec dC1)]
def CUQ (x : Prv) : Prop := AZ Try.prog CUT Vw (AN Vw) (xPrv x) (AF []) (.tup [.bool false, .int (AO x.c)]) [] [] []
theorem CZU (x : Prv) : (CUQ x) = ((x.c.p.lo = x.c.p.lo /\ x.c.p.hi = x.c.p.hi /\ x.c.base = x.c.base /\ x.c.scale = x.c.scale /\ x.c.off = x.c.off /\ (AE x.c.ms.length λ (i : Nat) => gD x.c.ms i).length =
 x.c.ms.length /\ (∀ (i : Nat), i < (AE x.c.ms.length λ (i : Nat) => gD x.c.ms i).length -> (gD (AE x.c.ms.length λ (i : Nat) => gD x.c.ms i) i).pl = (gD x.c.ms i).pl /\ (gD (AE x.c.ms.length λ (i : Nat) => gD
 x.c.ms i) i).ht = (gD x.c.ms i).ht) /\ (AE x.c.ns.length λ (i : Nat) => gD x.c.ns i).length = x.c.ns.length /\ (∀ (i : Nat), i < (AE x.c.ns.length λ (i : Nat) => gD x.c.ns i).length -> (gD (AE x.c.ns.length λ (i :
 Nat) => gD x.c.ns i) i).mi = (gD x.c.ns i).mi /\ (gD (AE x.c.ns.length λ (i : Nat) => gD x.c.ns i) i).t.lo = (gD x.c.ns i).t.lo /\ (gD (AE x.c.ns.length λ (i : Nat) => gD x.c.ns i) i).t.hi = (gD x.c.ns i).t.hi /\ (gD
 (AE x.c.ns.length λ (i : Nat) => gD x.c.ns i) i).s.lo = (gD x.c.ns i).s.lo /\ (gD (AE x.c.ns.length λ (i : Nat) => gD x.c.ns i) i).s.hi = (gD x.c.ns i).s.hi) /\ ((AE x.c.ms.length λ (i : Nat) => gD x.c.ms
 i).length < 4611686018427387904 /\ (AE x.c.ns.length λ (i : Nat) => gD x.c.ns i).length < 4611686018427387904) /\ AO (Cht.mk x.c.p x.c.base x.c.scale x.c.off (AE x.c.ms.length λ (i : Nat) => gD x.c.ms i) (AE
 x.c.ns.length λ (i : Nat) => gD x.c.ns i)) ≠ 0) /\ bif AO (Cht.mk x.c.p x.c.base x.c.scale x.c.off (AE x.c.ms.length λ (i : Nat) => gD x.c.ms i) (AE x.c.ns.length λ (i : Nat) => gD x.c.ns i)) != 0 then false =
 false /\ AO x.c = AO (Cht.mk x.c.p x.c.base x.c.scale x.c.off (AE x.c.ms.length λ (i : Nat) => gD x.c.ms i) (AE x.c.ns.length λ (i : Nat) => gD x.c.ns i)) else bif decide ((↑x.l.length : Int) > 40) then
 false = false /\ AO x.c = 3 else False) := by kernel_rfl
theorem DFN {c : Cht} {p : Pr} (hn : c.ns.length < 1073741824) (h : IN c p = true) : ((0 <= p.a /\ p.a < c.ns.length) /\ 0 <= p.b /\ p.b < c.ns.length) /\ (nA c p).mi < (nB c p).mi := by
 unfold IN at h
 cases hq : BFN c.ns.length p with
 | false => rw [hq] at h; cases h
 | true =>
  rw [hq] at h
  have h : (bif (!(p.a == p.b && p.b == p.a)) then decide ((nA c p).mi < (nB c p).mi) else false) = true := h
  unfold BFN wr IE at hq
  rw [EM (by omega) (by omega)] at hq
  simp only [Bool.and_eq_true, decide_eq_true_eq] at hq
  refine ⟨⟨by omega, by omega⟩, ?_⟩
  cases hb : (!(p.a == p.b && p.b == p.a)) with
  | false => rw [hb] at h; cases h
  | true => rw [hb] at h; exact of_decide_eq_true h
theorem CPT {x : Prv} : ∀ {m k : Nat}, k <= m -> pvK x m = true -> pvK x k = true
 | 0, k, h, hm => by
  obtain rfl : k = 0 := by omega
  rfl
 | m + 1, k, h, hm => by
  by_cases hk : k = m + 1
  ·subst hk; exact hm
  ·have h2 : (pvK x m && RJ x.c (gD x.l m) && !hitJ (mtF x m) (XD x m).toNat (pvB x m - XD x m).toNat) = true := hm
   rw [Bool.and_eq_true, Bool.and_eq_true] at h2
   exact CPT (by omega) h2.1.1
theorem CZR {f : Nat -> Bool} {a : Nat} : ∀ {m k : Nat}, k <= m -> hitJ f a k = true -> hitJ f a m = true
 | 0, k, h, hm => by
  obtain rfl : k = 0 := by omega
  exact hm
 | m + 1, k, h, hm => by
  by_cases hk : k = m + 1
  ·subst hk; exact hm
  ·show (hitJ f a m || f (a + m)) = true
   rw [CZR (show k <= m by omega) hm]; rfl
theorem CUD {x : Prv} (h1 : ¬(x.l.length : Int) > 40) (h2 : (x.l.all λ p => IN x.c p) = true) {k : Nat} (hk : k < x.l.length) (h3 : pvK x (k + 1) = false) : (MT x).1 = false /\ (MT x).2 = 0 := by
 have h : pvK x x.l.length = false := by
  cases hq : pvK x x.l.length with
  | false => rfl
  | true => rw [CPT (show k + 1 <= x.l.length from hk) hq] at h3; cases h3
 unfold MT; rw [decide_eq_false h1, h2, h]; exact ⟨rfl, rfl⟩
theorem DPI (x : Prv) (h1 : x.c.ms.length < 4611686018427387904 /\ x.c.ns.length < 4611686018427387904 /\ x.l.length < 4611686018427387904) (h0 : AO x.c = 0) : DCS x := by
 have hl := EW h0
 have hs := rA h0
 have hM := DJI hs.1
 rw [DIF]; delta Dv Bn AAD AEA BNG V7 ABX ABF BOL BWC AZL gK iH ANH ALD OX jC cT APY gA ANL Cb AFO Dn AMM Fi AUI AGA TO cJ kF jU BCV AGG fA AKU iB Gn TZ Cf SO Df gW AGM lE AHJ APA ANB dM ASH iJ BEO AJN AZB cR ANP iN JT AFT mI cQ ARV pJ AMB lU iS APS BBW AHV fR BAA kV AVM BED AHR cE AMA eY JX AMD ARJ KB Br Fh Fe Dd Cl Fo iO TG SU kK RX AXP UF UE AFY RU TK Bm Lu vU PB NM OG NF OY Ij NY sP I8 yK OJ KT H5 Jo WQ zE uJ wN wQ tV zX E0 OI Ih zD xU tZ wP wY C8 wT zK E9 D0 GY Lr Lp Hr Ht Jd Jf Jr Ha Kp zO E1; simp only [CC, eq_self, implies_true, forall_const, BO, APC, Bf, CPD, BMO, DKR]
 refine ⟨⟨⟨h1.1, h1.2.1⟩, h0⟩, λ hc => ?_, λ hc => ⟨⟨h1.2.2, by omega⟩, λ ha => ?_, λ ha => ⟨rfl, ⟨0, ⟨rfl, λ _ _ => rfl⟩, Nat.zero_le _, rfl⟩, ?_⟩⟩⟩
 ·unfold MT; rw [decide_eq_true hc]; exact ⟨rfl, rfl⟩
 ·unfold MT; rw [decide_eq_false hc, ha]; exact ⟨rfl, rfl⟩
 ·rintro k ⟨hk, hp⟩
  have hP : ∀ k, k < x.l.length -> _ := λ k hk => DFN (by omega) (List.all_eq_true.1 ha _ (CT hk))
  have mA : ∀ k, k < x.l.length -> 0 <= XD x k /\ XD x k < x.c.ms.length := λ k hk => hM _ (by have := (hP k hk).1; omega)
  have mB : ∀ k, k < x.l.length -> 0 <= pvB x k /\ pvB x k < x.c.ms.length := λ k hk => hM _ (by have := (hP k hk).1; omega)
  have mL : ∀ k, k < x.l.length -> XD x k < pvB x k := λ k hk => (hP k hk).2
  have eB : ∀ k, (gD x.c.ns (gD x.l k).b.toNat).mi = pvB x k := λ _ => rfl
  have eA : ∀ k, (gD x.c.ns (gD x.l k).a.toNat).mi = XD x k := λ _ => rfl
  refine ⟨λ hlt => ⟨⟨by omega, by omega⟩, ⟨(hP k (by omega)).1, ⟨hl.2.1.2, hl.2.2⟩, hM⟩, λ hL => ?_, λ hL => ⟨(hP k (by omega)).1.1, ⟨⟨k, 0⟩, ⟨by rw [eA]; show XD x k + ((0 : Nat) : Int) = _; omega, rfl, λ i hi => ?_, rfl, rfl⟩, ⟨by show k < _; omega, rfl⟩, ⟨hp, hL⟩, by have := mL k (by omega); show XD x k + ((0 : Nat) : Int) <= pvB x k; omega, rfl⟩, ?_⟩⟩, λ hge => ?_⟩
  ·refine CUD hc ha (k := k) (by omega) ?_
   show (pvK x k && RJ x.c (gD x.l k) && _) = false
   rw [hL]; simp
  ·show (mtF x k i || (decide (XD x k <= i) && decide ((i : Int) < XD x k + ((0 : Nat) : Int)))) = mtF x k i
   rw [show (decide (XD x k <= i) && decide ((i : Int) < XD x k + ((0 : Nat) : Int))) = false by simp, Bool.or_false]
  ·rintro ⟨i, j⟩ ⟨⟨y1, y2⟩, ⟨y3, y4⟩, y5, y6⟩
   dsimp only at y1 y2 y3 y4 y5 y6 ⊢
   simp only [eB]
   have a1 := mA i y1
   have b1 := mB i y1
   have l1 := mL i y1
   have e : (XD x i + (j : Int)).toNat = (XD x i).toNat + j := by omega
   have eG : mtG x i j ((XD x i).toNat + j) = mtF x i ((XD x i).toNat + j) := by
    show (mtF x i _ || (decide (XD x i <= _) && decide (_ < XD x i + (j : Int)))) = _
    rw [decide_eq_false (show ¬(((XD x i).toNat + j : Nat) : Int) < XD x i + (j : Int) by omega), Bool.and_false, Bool.or_false]
   refine ⟨(hP i y1).1.2, λ hb => ⟨⟨⟨by omega, by omega⟩, by omega⟩, λ hm => ?_, λ hm => ⟨⟨⟨by omega, by omega⟩, by omega⟩, ⟨i, j + 1⟩, ⟨?_, rfl, λ t ht => ?_, rfl, rfl⟩, ⟨⟨y1, y2⟩, ⟨y3, y4⟩, by show XD x i + ((j + 1 : Nat) : Int) <= pvB x i; omega, ?_⟩, by show 50 - (j + 1) < _; omega⟩⟩, λ hb => ⟨i + 1, ⟨by rw [EM (by omega) (by omega)]; rfl, λ t ht => ?_⟩, ⟨by omega, ?_⟩, by omega⟩⟩
   ·rw [e, eG] at hm
    refine CUD hc ha (k := i) y1 ?_
    have h9 : hitJ (mtF x i) (XD x i).toNat (j + 1) = true := by
     show (hitJ _ _ _ || _) = true
     rw [hm, Bool.or_true]
    show (pvK x i && RJ x.c (gD x.l i) && !hitJ _ _ _) = false
    rw [CZR (show j + 1 <= (pvB x i - XD x i).toNat by omega) h9]; simp
   ·show XD x i + ((j + 1 : Nat) : Int) = _
    rw [EM (by omega) (by omega)]; omega
   ·show (mtF x i t || (decide (XD x i <= t) && decide ((t : Int) < XD x i + ((j + 1 : Nat) : Int)))) = bif _ then true else (mtF x i t || (decide (XD x i <= t) && decide ((t : Int) < XD x i + (j : Int))))
    rw [e]
    by_cases h7 : t = (XD x i).toNat + j
    ·rw [decide_eq_true h7, decide_eq_true (show XD x i <= t by omega), decide_eq_true (show (t : Int) < XD x i + ((j + 1 : Nat) : Int) by omega)]; simp
    ·rw [decide_eq_false h7]
     show _ = (mtF x i t || _)
     congr 2
     exact decide_eq_decide.2 (by omega)
   ·rw [e, eG] at hm
    show (hitJ _ _ _ || _) = false
    rw [y6, hm]; rfl
   ·have e3 : XD x i + (j : Int) = pvB x i := by omega
    show (mtF x i t || _) = (mtF x i t || (decide (XD x i <= t) && decide ((t : Int) < XD x i + (j : Int))))
    rw [e3]
   ·have e3 : (pvB x i - XD x i).toNat = j := by omega
    show (pvK x i && RJ x.c (gD x.l i) && !hitJ _ _ _) = true
    rw [e3, y3, y4, y6]; rfl
  ·have e : k = x.l.length := by omega
   subst e
   unfold MT; rw [decide_eq_false hc, ha, hp]; exact ⟨by simp, rfl⟩
theorem DGY : AP Try.prog BZV (C_prov.spec dPrv) := okT C_prov (λ (x : Prv) h => by
 have h1 : x.c.ms.length < 4611686018427387904 /\ x.c.ns.length < 4611686018427387904 /\ x.l.length < 4611686018427387904 := h
 by_cases h0 : AO x.c = 0
 ·have e : C_prov.val x = .tup [.bool (MT x).1, .int (MT x).2] := by
   show AVal.tup [.bool (BEY x).1, .int (BEY x).2] = _
   unfold BEY; rw [h0]; rfl
  rw [e]
  exact TV (A := CYR x) (L := []) (keep := []) (ren := []) (fz := []) CBW (by kernel_rfl) (AD P7 (AD DRD (AD CVJ AK))) (DPI x h1 h0)
 ·have h0' : (AO x.c == 0) = false := by simpa using h0
  have e : C_prov.val x = .tup [.bool false, .int (AO x.c)] := by
   show AVal.tup [.bool (BEY x).1, .int (BEY x).2] = _
   unfold BEY; rw [h0']; rfl
  rw [e]
  refine TV (A := CUT) (L := []) (keep := []) (ren := []) (fz := []) CBW (by kernel_rfl) (AD O1 AK) ?_
  show CUQ x; rw [CZU]; simp only [CC, eq_self, implies_true, forall_const, BO]
  simp [h1, h0]) _
end Go.Bal
