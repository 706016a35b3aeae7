/- Package chart: Late, Proves. -/
import Derived.Test.YtdbjalgfomknhaaChK
set_option linter.unusedVariables false
set_option linter.unusedSimpArgs false
namespace Go.Bal
open Go Go.Sym Go.Proofs
structure Prv where
 c : Cht
 m : Int
 l : List Pr
def dPrv : List AVal -> Heap -> Option (Prv × List (Nat × Nat) × List Nat)
 | [x, .d m, y], H => match CAS x H, rT y H with
  | some (c, f), some (n, g, e) => some (⟨c, BV m, AF n λ i => dPr (g i)⟩, [], f ++ e)
  | _, _ => none
 | _, _ => none
def xPrv (x : Prv) : List AVal := [.d (XK x.c), .int x.m, .d (Ij x.l)]
def YW (x : Prv) (k : Nat) : Int := (nA x.c (gD x.l k)).mi
def pvB (x : Prv) (k : Nat) : Int := (nB x.c (gD x.l k)).mi
def mtF (x : Prv) : Nat -> Nat -> Bool
 | 0, _ => false
 | k + 1, i => mtF x k i || (decide (YW x k <= i) && decide ((i : Int) < pvB x k))
def hitJ (f : Nat -> Bool) (a : Nat) : Nat -> Bool
 | 0 => false
 | j + 1 => hitJ f a j || f (a + j)
def pvK (x : Prv) : Nat -> Bool
 | 0 => true
 | k + 1 => pvK x k && Ac x.c (gD x.l k) && !hitJ (mtF x k) (YW x k).toNat (pvB x k - YW x k).toNat
def MH (x : Prv) : Bool × Int := bif decide ((x.l.length : Int) > 40) then (false, 3) else bif !(x.l.all λ p => IP x.c p) then (false, 2) else (pvK x x.l.length && decide ((x.l.length : Int) >= x.m), 0)
def BHI (x : Prv) : Bool × Int := bif AM x.c == 0 then MH x else (false, AM x.c)
def C_prov : Ctr := { α := Prv, xs := xPrv, val := λ x => .tup [.bool (BHI x).1, .int (BHI x).2], keep := λ _ => [], pre := λ x => [x.c.ms.length < 4611686018427387904 /\ x.c.ns.length < 4611686018427387904 /\ x.l.length < 4611686018427387904] }
def pvS (x : Prv) (k : Nat) : List (Nat × AVal) := [(1, .int x.m), (2, .d (Ij x.l)), (3, .bptr 201 0), (8, .bptr 203 0), (10, .rptr 205 1 0 0), (33, .d (Ij x.l)), (34, .int x.l.length), (35, .int k)]
def pvH (x : Prv) (f : Nat -> Bool) : List (Nat × HCell) := [(201, .live (chB x.c)), (203, .live (dkB (AH x.c) 204)), (204, .live (dkM (AH x.c))), (205, .live (.row 1 40 λ i => .v (.bool (f i))))]
def pv10 (x : Prv) : Shape := { α := Nat, dflt := 0, T := λ k => ⟨pvS x k, pvH x (mtF x k)⟩, inv := λ k => k <= x.l.length /\ pvK x k = true, meas := λ k => x.l.length - k, first := [(201, 1000), (203, 2016), (204, 2017), (205, 9000)] }
def mtG (x : Prv) (k j : Nat) : Nat -> Bool := λ i => mtF x k i || (decide (YW x k <= i) && decide ((i : Int) < YW x k + j))
def pv15 (x : Prv) (m : Nat) : Shape := { α := IJ, dflt := default, T := λ s => ⟨[(12, .bptr 206 0), (13, .int (YW x s.i + s.j))] ++ pvS x s.i, pvH x (mtG x s.i s.j) ++ [(206, .live (.box [.int (gD x.l s.i).a, .int (gD x.l s.i).b]))]⟩, inv := λ s => (s.i < x.l.length /\ x.l.length - s.i = m) /\ (pvK x s.i = true /\ Ac x.c (gD x.l s.i) = true) /\ (YW x s.i + s.j <= pvB x s.i /\ hitJ (mtF x s.i) (YW x s.i).toNat s.j = false), meas := λ s => 50 - s.j, first := [(206, 12032)] }
def DDD (x : Prv) : Ann := { ann 71 [(HW, C_open.spec dC1), (n_eP, C4Pp.spec d4Pp), (COB, C_late.spec dDkP)] with loops := λ id => if id = 10 then some [pv10 x] else none, inner := λ gs id => if id = 15 then some [pv15 x (gs.getD 0 0)] else none }
def DGO (x : Prv) : Prop := BA Try.prog (DDD x) Wm (AL Wm) (xPrv x) (AG []) (.tup [.bool (MH x).1, .int (MH x).2]) [] [] []
abbrev Fv (x : Prv) : Prop := x.c.p.lo = x.c.p.lo
abbrev Ee (x : Prv) : Prop := x.c.p.hi = x.c.p.hi
abbrev ABX (x : Prv) : List Mk := AF x.c.ms.length λ (i : Nat) => gD x.c.ms i
abbrev AFQ (x : Prv) : Nat := (ABX x).length
abbrev BOD (x : Prv) (i : Nat) : Mk := gD (ABX x) i
abbrev ADZ (x : Prv) : List Nt := AF x.c.ns.length λ (i : Nat) => gD x.c.ns i
abbrev ACW (x : Prv) : Nat := (ADZ x).length
abbrev ACH (x : Prv) (i : Nat) : Nt := gD (ADZ x) i
abbrev BXR (x : Prv) (i : Nat) : Span := (ACH x i).t
abbrev BMX (x : Prv) (i : Nat) : Span := (ACH x i).s
abbrev BGV (x : Prv) : Cht := Cht.mk x.c.p x.c.base x.c.scale x.c.off (ABX x) (ADZ x)
abbrev lL (x : Prv) : List Pr := AF x.l.length λ (i : Nat) => gD x.l i
abbrev rM (x : Prv) : Nat := (lL x).length
abbrev AOC (x : Prv) (i : Nat) : Pr := gD (lL x) i
abbrev AUE (x : Prv) : Dk := AH (BGV x)
abbrev ND (x : Prv) : Cht := (AUE x).c
abbrev hG (x : Prv) : Span := (ND x).p
abbrev gE (x : Prv) : Int := (hG x).lo
abbrev BCN (x : Prv) : Prop := gE x = gE x
abbrev pG (x : Prv) : Int := (hG x).hi
abbrev ARA (x : Prv) : Prop := pG x = pG x
abbrev Gh (x : Prv) : Int := (ND x).base
abbrev AKQ (x : Prv) : Prop := Gh x = Gh x
abbrev Hw (x : Prv) : Int := (ND x).scale
abbrev AKZ (x : Prv) : Prop := Hw x = Hw x
abbrev Fi (x : Prv) : Int := (ND x).off
abbrev AZI (x : Prv) : Prop := Fi x = Fi x
abbrev AVV (x : Prv) : List Mk := (ND x).ms
abbrev TM (x : Prv) : Nat := (AVV x).length
abbrev eN (x : Prv) (i : Nat) : Mk := gD (AVV x) i
abbrev nW (x : Prv) : List Mk := AF (TM x) λ (i : Nat) => eN x i
abbrev eS (x : Prv) : Nat := (nW x).length
abbrev AMR (x : Prv) (i : Nat) : Mk := gD (nW x) i
abbrev BCB (x : Prv) (i : Nat) : Int := (AMR x i).pl
abbrev pY (x : Prv) (i : Nat) : Int := (eN x i).pl
abbrev AQN (x : Prv) (i : Nat) : Int := (AMR x i).ht
abbrev lP (x : Prv) (i : Nat) : Int := (eN x i).ht
abbrev Fr (x : Prv) : List Nt := (ND x).ns
abbrev TA (x : Prv) : Nat := (Fr x).length
abbrev Hg (x : Prv) (i : Nat) : Nt := gD (Fr x) i
abbrev SO (x : Prv) : List Nt := AF (TA x) λ (i : Nat) => Hg x i
abbrev Dw (x : Prv) : Nat := (SO x).length
abbrev mU (x : Prv) (i : Nat) : Nt := gD (SO x) i
abbrev AOG (x : Prv) (i : Nat) : Int := (mU x i).mi
abbrev gJ (x : Prv) (i : Nat) : Int := (Hg x i).mi
abbrev APK (x : Prv) (i : Nat) : Span := (mU x i).t
abbrev BHC (x : Prv) (i : Nat) : Int := (APK x i).lo
abbrev AKR (x : Prv) (i : Nat) : Span := (Hg x i).t
abbrev lX (x : Prv) (i : Nat) : Int := (AKR x i).lo
abbrev BEC (x : Prv) (i : Nat) : Int := (APK x i).hi
abbrev mH (x : Prv) (i : Nat) : Int := (AKR x i).hi
abbrev BAL (x : Prv) (i : Nat) : Span := (mU x i).s
abbrev AZC (x : Prv) (i : Nat) : Int := (BAL x i).lo
abbrev AYU (x : Prv) (i : Nat) : Span := (Hg x i).s
abbrev qW (x : Prv) (i : Nat) : Int := (AYU x i).lo
abbrev ALA (x : Prv) (i : Nat) : Int := (BAL x i).hi
abbrev pZ (x : Prv) (i : Nat) : Int := (AYU x i).hi
abbrev JO : Prop := ∀ (i : Nat), i < 40 -> false = false
abbrev AXP (x : Prv) (n : Int) : Bool := hasN (SO x) n
abbrev qD (x : Prv) (n : Int) : Bool := hasN (Fr x) n
abbrev qA (x : Prv) (n : Int) : Int := (AUE x).st n
abbrev AXU (x : Prv) : Prop := ∀ (n : Int), qA x n = qA x n
abbrev jZ (x : Prv) (n : Int) : Nt := ntOf (SO x) n
abbrev ATL (x : Prv) (n : Int) : Int := (jZ x n).mi
abbrev eP (x : Prv) (n : Int) : Nt := ntOf (Fr x) n
abbrev gT (x : Prv) (n : Int) : Int := (eP x n).mi
abbrev AYX (x : Prv) (n : Int) : Span := (jZ x n).t
abbrev AVE (x : Prv) (n : Int) : Int := (AYX x n).lo
abbrev ALX (x : Prv) (n : Int) : Span := (eP x n).t
abbrev oV (x : Prv) (n : Int) : Int := (ALX x n).lo
abbrev AMW (x : Prv) (n : Int) : Int := (AYX x n).hi
abbrev kS (x : Prv) (n : Int) : Int := (ALX x n).hi
abbrev AMB (x : Prv) (n : Int) : Span := (jZ x n).s
abbrev AUS (x : Prv) (n : Int) : Int := (AMB x n).lo
abbrev AUU (x : Prv) (n : Int) : Span := (eP x n).s
abbrev mP (x : Prv) (n : Int) : Int := (AUU x n).lo
abbrev BFU (x : Prv) (n : Int) : Int := (AMB x n).hi
abbrev fG (x : Prv) (n : Int) : Int := (AUU x n).hi
abbrev JS (x : Prv) : Prop := x.l.length = x.l.length
abbrev ARE (x : Prv) (i : Nat) : Prop := (gD x.l i).a = (gD x.l i).a
abbrev BFF (x : Prv) (i : Nat) : Prop := (gD x.l i).b = (gD x.l i).b
abbrev JM (x : Prv) : Prop := ∀ (i : Nat), i < x.l.length -> ARE x i /\ BFF x i
abbrev Ht : Prop := 0 = 0
abbrev Hz (x : Prv) : Prop := (↑x.l.length : Int) = (↑x.l.length : Int)
abbrev Hr (x : Prv) : Prop := x.c.ms.length = x.c.ms.length
abbrev Gl (x : Prv) : Prop := ∀ (i : Nat), i < x.c.ms.length -> (gD x.c.ms i).pl = (gD x.c.ms i).pl /\ (gD x.c.ms i).ht = (gD x.c.ms i).ht
abbrev Iq (x : Prv) : Prop := x.c.ns.length = x.c.ns.length
abbrev Iw (x : Prv) : Prop := ∀ (i : Nat), i < x.c.ns.length -> (gD x.c.ns i).mi = (gD x.c.ns i).mi /\ (gD x.c.ns i).t.lo = (gD x.c.ns i).t.lo /\ (gD x.c.ns i).t.hi = (gD x.c.ns i).t.hi /\ (gD x.c.ns i).s.lo = (gD
 x.c.ns i).s.lo /\ (gD x.c.ns i).s.hi = (gD x.c.ns i).s.hi
abbrev pU (i : Nat) (x : Prv) : Prop := i < (AH x.c).c.ms.length
abbrev TW (x : Prv) (i : Nat) : Int := (gD (AH x.c).c.ms i).pl
abbrev VF (x : Prv) (i : Nat) : Int := (gD (AH x.c).c.ms i).ht
abbrev rC (i : Nat) (x : Prv) : Prop := i < (AH x.c).c.ns.length
abbrev TZ (x : Prv) (i : Nat) : Int := (gD (AH x.c).c.ns i).mi
abbrev ALG (x : Prv) (i : Nat) : Span := (gD (AH x.c).c.ns i).t
abbrev SZ (x : Prv) (i : Nat) : Int := (ALG x i).lo
abbrev VJ (x : Prv) (i : Nat) : Int := (ALG x i).hi
abbrev AVC (x : Prv) (i : Nat) : Span := (gD (AH x.c).c.ns i).s
abbrev SQ (x : Prv) (i : Nat) : Int := (AVC x i).lo
abbrev TG (x : Prv) (i : Nat) : Int := (AVC x i).hi
abbrev Dy : Prop := 40 = 40
abbrev Ni (a : Nat) (x : Prv) : Prop := a <= x.l.length /\ pvK x a = true
abbrev vZ (a : Nat) (x : Prv) : Prop := (↑a : Int) < (↑x.l.length : Int)
abbrev NY (x : Prv) : Prop := (AH x.c).c.p.lo = (AH x.c).c.p.lo
abbrev ON (x : Prv) : Prop := (AH x.c).c.p.hi = (AH x.c).c.p.hi
abbrev OJ (x : Prv) : Prop := (AH x.c).c.base = (AH x.c).c.base
abbrev NG (x : Prv) : Prop := (AH x.c).c.scale = (AH x.c).c.scale
abbrev OQ (x : Prv) : Prop := (AH x.c).c.off = (AH x.c).c.off
abbrev Ot (x : Prv) : List Mk := AF (AH x.c).c.ms.length λ (i : Nat) => gD (AH x.c).c.ms i
abbrev NW (x : Prv) : Nat := (Ot x).length
abbrev S0 (x : Prv) (i : Nat) : Mk := gD (Ot x) i
abbrev L8 (x : Prv) (i : Nat) : Int := (S0 x i).pl
abbrev C1 (x : Prv) (i : Nat) : Int := (S0 x i).ht
abbrev OL (x : Prv) : List Nt := AF (AH x.c).c.ns.length λ (i : Nat) => gD (AH x.c).c.ns i
abbrev KI (x : Prv) : Nat := (OL x).length
abbrev H9 (i : Nat) (x : Prv) : Prop := i < KI x
abbrev Pp (x : Prv) (i : Nat) : Nt := gD (OL x) i
abbrev YQ (x : Prv) (i : Nat) : Int := (Pp x i).mi
abbrev sS (x : Prv) (i : Nat) : Span := (Pp x i).t
abbrev wF (x : Prv) (i : Nat) : Int := (sS x i).lo
abbrev P5 (x : Prv) (i : Nat) : Int := (sS x i).hi
abbrev R3 (x : Prv) (i : Nat) : Span := (Pp x i).s
abbrev J5 (x : Prv) (i : Nat) : Int := (R3 x i).lo
abbrev C8 (x : Prv) (i : Nat) : Int := (R3 x i).hi
abbrev D6 (x : Prv) (n : Int) : Bool := hasN (OL x) n
abbrev MM (x : Prv) : Prop := ∀ (n : Int), (AH x.c).st n = (AH x.c).st n
abbrev Lo (x : Prv) (n : Int) : Nt := ntOf (OL x) n
abbrev tO (x : Prv) (n : Int) : Int := (Lo x n).mi
abbrev xA (x : Prv) (n : Int) : Span := (Lo x n).t
abbrev vQ (x : Prv) (n : Int) : Int := (xA x n).lo
abbrev tK (x : Prv) (n : Int) : Int := (xA x n).hi
abbrev vX (x : Prv) (n : Int) : Span := (Lo x n).s
abbrev M0 (x : Prv) (n : Int) : Int := (vX x n).lo
abbrev J9 (x : Prv) (n : Int) : Int := (vX x n).hi
abbrev sI (x : Prv) (a : Nat) : Prop := 0 <= (gD x.l a).a
abbrev P2 (x : Prv) : Prop := (MH x).snd = 0
abbrev X1 (x : Prv) : Prop := (MH x).fst = false /\ P2 x
abbrev HK (x : Prv) (a : IJ) : Int := YW x a.i + (↑a.j : Int)
abbrev Nh (x : Prv) : Prop := (AH x.c).c.ms.length = (AH x.c).c.ms.length
abbrev Lm (x : Prv) : Prop := ∀ (i : Nat), pU i x -> TW x i = TW x i /\ VF x i = VF x i
abbrev Ku (x : Prv) : Prop := (AH x.c).c.ns.length = (AH x.c).c.ns.length
abbrev Oz (x : Prv) : Prop := ∀ (i : Nat), rC i x -> TZ x i = TZ x i /\ SZ x i = SZ x i /\ VJ x i = VJ x i /\ SQ x i = SQ x i /\ TG x i = TG
 x i
abbrev Lq (x : Prv) : Prop := ∀ (n : Int), hasN (AH x.c).c.ns n = hasN (AH x.c).c.ns n
abbrev Nc (x : Prv) : Prop := ∀ (n : Int), (ntOf (AH x.c).c.ns n).mi = (ntOf (AH x.c).c.ns n).mi /\ (ntOf (AH x.c).c.ns n).t.lo = (ntOf (AH x.c).c.ns n).t.lo /\ (ntOf (AH x.c).c.ns n).t.hi = (ntOf (AH
 x.c).c.ns n).t.hi /\ (ntOf (AH x.c).c.ns n).s.lo = (ntOf (AH x.c).c.ns n).s.lo /\ (ntOf (AH x.c).c.ns n).s.hi = (ntOf (AH x.c).c.ns n).s.hi
abbrev Oy (x : Prv) (a : Nat) : Nat := x.l.length - a
abbrev Mr (a : IJ) (x : Prv) (a1 : Nat) : Prop := (a.i < x.l.length /\ x.l.length - a.i = Oy x a1) /\ (pvK x a.i = true /\ Ac x.c (gD x.l a.i) = true) /\ HK x a <= pvB x a.i /\ hitJ (mtF x a.i) (YW
 x a.i).toNat a.j = false
abbrev Kr (x : Prv) (a : IJ) : Nat := (HK x a).toNat
abbrev O4 (x : Prv) (a : IJ) : Prop := (0 <= HK x a /\ HK x a < (↑40 : Int)) /\ (Kr x a).succ.le 40
abbrev Q2 (a : IJ) : Nat := 50 - a.j
theorem DLM (x : Prv) : (DGO x) = ((Fv x /\ Ee x /\ x.c.base = x.c.base /\ x.c.scale = x.c.scale /\ x.c.off = x.c.off /\ AFQ x = x.c.ms.length /\ (∀ (i : Nat), i < AFQ x -> (BOD x i).pl = (gD
 x.c.ms i).pl /\ (BOD x i).ht = (gD x.c.ms i).ht) /\ ACW x = x.c.ns.length /\ (∀ (i : Nat), i < ACW x -> (ACH x i).mi = (gD x.c.ns i).mi /\ (BXR x i).lo = (gD x.c.ns i).t.lo /\ (BXR x i).hi = (gD
 x.c.ns i).t.hi /\ (BMX x i).lo = (gD x.c.ns i).s.lo /\ (BMX x i).hi = (gD x.c.ns i).s.hi) /\ (AFQ x < 4611686018427387904 /\ ACW x < 4611686018427387904) /\ AM (BGV x) = 0) /\ bif decide
 ((↑x.l.length : Int) > 40) then (MH x).fst = false /\ (MH x).snd = 3 else (rM x = x.l.length /\ (∀ (i : Nat), i < rM x -> (AOC x i).a = (gD x.l i).a /\ (AOC x i).b = (gD x.l i).b) /\ BCN
 x /\ ARA x /\ AKQ x /\ AKZ x /\ AZI x /\ eS x = TM x /\ (∀ (i : Nat), i < eS x -> BCB x i = pY x i /\ AQN x i = lP x i) /\ Dw x = TA x /\ (∀ (i :
 Nat), i < Dw x -> AOG x i = gJ x i /\ BHC x i = lX x i /\ BEC x i = mH x i /\ AZC x i = qW x i /\ ALA x i = pZ x i) /\ JO /\ AO = AO /\ (∀ (n :
 Int), AXP x n = qD x n) /\ AXU x /\ (∀ (n : Int), ATL x n = gT x n /\ AVE x n = oV x n /\ AMW x n = kS x n /\ AUS x n = mP x n /\ BFU x n = fG
 x n) /\ BCN x /\ ARA x /\ AKQ x /\ AKZ x /\ AZI x /\ TM x = eS x /\ (∀ (i : Nat), i < TM x -> pY x i = BCB x i /\ lP x i = AQN x i) /\ TA x =
 Dw x /\ (∀ (i : Nat), i < TA x -> gJ x i = AOG x i /\ lX x i = BHC x i /\ mH x i = BEC x i /\ qW x i = AZC x i /\ pZ x i = ALA x i) /\ JO /\
 AO = AO /\ (∀ (n : Int), qD x n = AXP x n) /\ AXU x /\ (∀ (n : Int), gT x n = ATL x n /\ oV x n = AVE x n /\ kS x n = AMW x n /\ mP x n = AUS x n /\
 fG x n = BFU x n) /\ rM x < 4611686018427387904 /\ Dw x < 1073741824) /\ bif !(lL x).all λ (x_1 : Pr) => IP (Cht.mk (hG x) (Gh x) (Hw x) (Fi x) (nW
 x) (SO x)) x_1 then (MH x).fst = false /\ (MH x).snd = 2 else (Value.agg #[Value.bool false, Value.bool false, Value.bool false, Value.bool false, Value.bool false, Value.bool false, Value.bool false,
 Value.bool false, Value.bool false, Value.bool false, Value.bool false, Value.bool false, Value.bool false, Value.bool false, Value.bool false, Value.bool false, Value.bool false, Value.bool false, Value.bool false,
 Value.bool false, Value.bool false, Value.bool false, Value.bool false, Value.bool false, Value.bool false, Value.bool false, Value.bool false, Value.bool false, Value.bool false, Value.bool false, Value.bool false,
 Value.bool false, Value.bool false, Value.bool false, Value.bool false, Value.bool false, Value.bool false, Value.bool false, Value.bool false, Value.bool false]).cells.toList = (List.replicate 40 (Value.bool
 false).cells.toList).flatten /\ (∃ (a : Nat), (x.m = x.m /\ JS x /\ JM x /\ Ht /\ JS x /\ JM x /\ Hz x /\ (↑a : Int) = 0 /\ Fv x /\ Ee x /\ x.c.base = x.c.base /\ x.c.scale =
 x.c.scale /\ x.c.off = x.c.off /\ Hr x /\ Gl x /\ Iq x /\ Iw x /\ (AH x.c).c.p.lo = gE x /\ (AH x.c).c.p.hi = pG x /\ (AH x.c).c.base = Gh x /\ (AH x.c).c.scale = Hw
 x /\ (AH x.c).c.off = Fi x /\ (AH x.c).c.ms.length = TM x /\ (∀ (i : Nat), pU i x -> TW x i = pY x i /\ VF x i = lP x i) /\ (AH x.c).c.ns.length = TA x /\ (∀ (i :
 Nat), rC i x -> TZ x i = gJ x i /\ SZ x i = lX x i /\ VJ x i = mH x i /\ SQ x i = qW x i /\ TG x i = pZ x i) /\ JO /\ AO = AO /\ (∀ (n : Int),
 hasN (AH x.c).c.ns n = qD x n) /\ (∀ (n : Int), (AH x.c).st n = qA x n) /\ (∀ (n : Int), (ntOf (AH x.c).c.ns n).mi = gT x n /\ (ntOf (AH x.c).c.ns n).t.lo = oV x n /\ (ntOf (AH x.c).c.ns
 n).t.hi = kS x n /\ (ntOf (AH x.c).c.ns n).s.lo = mP x n /\ (ntOf (AH x.c).c.ns n).s.hi = fG x n) /\ Dy /\ ∀ (i : Nat), i < 40 -> mtF x a i = false) /\ Ni a x) /\ ∀ (a : Nat), Ni
 a x -> bif decide (vZ a x) then (0 <= (↑a : Int) /\ vZ a x) /\ (ARE x a /\ BFF x a /\ NY x /\ ON x /\ OJ x /\ NG x /\ OQ x /\ NW x = (AH x.c).c.ms.length
 /\ (∀ (i : Nat), i < NW x -> L8 x i = TW x i /\ C1 x i = VF x i) /\ KI x = (AH x.c).c.ns.length /\ (∀ (i : Nat), H9 i x -> YQ x i = TZ x i /\ wF x i
 = SZ x i /\ P5 x i = VJ x i /\ J5 x i = SQ x i /\ C8 x i = TG x i) /\ JO /\ AO = AO /\ (∀ (n : Int), D6 x n = hasN (AH x.c).c.ns n) /\ MM x /\ (∀ (n
 : Int), tO x n = (ntOf (AH x.c).c.ns n).mi /\ vQ x n = (ntOf (AH x.c).c.ns n).t.lo /\ tK x n = (ntOf (AH x.c).c.ns n).t.hi /\ M0 x n = (ntOf (AH x.c).c.ns n).s.lo /\ J9 x n =
 (ntOf (AH x.c).c.ns n).s.hi) /\ NY x /\ ON x /\ OJ x /\ NG x /\ OQ x /\ (AH x.c).c.ms.length = NW x /\ (∀ (i : Nat), pU i x -> TW x i = L8 x i /\ VF
 x i = C1 x i) /\ (AH x.c).c.ns.length = KI x /\ (∀ (i : Nat), rC i x -> TZ x i = YQ x i /\ SZ x i = wF x i /\ VJ x i = P5 x i /\ SQ x i = J5
 x i /\ TG x i = C8 x i) /\ JO /\ AO = AO /\ (∀ (n : Int), hasN (AH x.c).c.ns n = D6 x n) /\ MM x /\ (∀ (n : Int), (ntOf (AH x.c).c.ns n).mi = tO x n /\ (ntOf (AH x.c).c.ns
 n).t.lo = vQ x n /\ (ntOf (AH x.c).c.ns n).t.hi = tK x n /\ (ntOf (AH x.c).c.ns n).s.lo = M0 x n /\ (ntOf (AH x.c).c.ns n).s.hi = J9 x n) /\ ((sI x a /\ (gD x.l a).a <
 (↑(KI x) : Int)) /\ 0 <= (gD x.l a).b /\ (gD x.l a).b < (↑(KI x) : Int)) /\ (NW x <= 40 /\ KI x <= 20) /\ ∀ (i : Nat), H9 i x -> 0 <= YQ x i /\ YQ x i < (↑(NW x) :
 Int)) /\ bif !Ac (Cht.mk (AH x.c).c.p (AH x.c).c.base (AH x.c).c.scale (AH x.c).c.off (Ot x) (OL x)) (gD x.l a) then X1 x else (sI x a /\ (gD x.l a).a < (↑x.c.ns.length : Int)) /\
 (∃ (a_2 : IJ), (HK x a_2 = (gD x.c.ns (gD x.l a).a.toNat).mi /\ x.m = x.m /\ JS x /\ JM x /\ Ht /\ JS x /\ JM x /\ Hz x /\ (↑a_2.i : Int) = (↑a : Int) /\ Fv x /\ Ee x /\
 x.c.base = x.c.base /\ x.c.scale = x.c.scale /\ x.c.off = x.c.off /\ Hr x /\ Gl x /\ Iq x /\ Iw x /\ NY x /\ ON x /\ OJ x /\ NG x /\ OQ x /\ Nh x /\
 Lm x /\ Ku x /\ Oz x /\ JO /\ AO = AO /\ Lq x /\ MM x /\ Nc x /\ Dy /\ (∀ (i : Nat), i < 40 -> mtG x a_2.i a_2.j i = mtF x a i) /\ (gD x.l a_2.i).a = (gD x.l a).a /\
 (gD x.l a_2.i).b = (gD x.l a).b) /\ Mr a_2 x a) /\ ∀ (a_2 : IJ), Mr a_2 x a -> (0 <= (gD x.l a_2.i).b /\ (gD x.l a_2.i).b < (↑x.c.ns.length : Int)) /\ bif decide (HK x a_2 < (gD x.c.ns (gD x.l
 a_2.i).b.toNat).mi) then O4 x a_2 /\ bif mtG x a_2.i a_2.j (Kr x a_2) then X1 x else O4 x a_2 /\ ∃ (a_4 : IJ), (HK x a_4 = IntKind.i64.wrap (HK x a_2 + 1) /\ x.m = x.m /\
 JS x /\ JM x /\ Ht /\ JS x /\ JM x /\ Hz x /\ (↑a_4.i : Int) = (↑a_2.i : Int) /\ Fv x /\ Ee x /\ x.c.base = x.c.base /\ x.c.scale = x.c.scale /\ x.c.off = x.c.off /\ Hr x
 /\ Gl x /\ Iq x /\ Iw x /\ NY x /\ ON x /\ OJ x /\ NG x /\ OQ x /\ Nh x /\ Lm x /\ Ku x /\ Oz x /\ JO /\ AO = AO /\ Lq x /\
 MM x /\ Nc x /\ Dy /\ (∀ (i : Nat), i < 40 -> mtG x a_4.i a_4.j i = bif decide (i = Kr x a_2) then true else mtG x a_2.i a_2.j i) /\ (gD x.l a_4.i).a = (gD x.l a_2.i).a /\ (gD x.l a_4.i).b = (gD
 x.l a_2.i).b) /\ Mr a_4 x a /\ Q2 a_4 < Q2 a_2 else ∃ (a_4 : Nat), (x.m = x.m /\ JS x /\ JM x /\ Ht /\ JS x /\ JM x /\ Hz x /\ (↑a_4 : Int) = IntKind.i64.wrap
 ((↑a_2.i : Int) + 1) /\ Fv x /\ Ee x /\ x.c.base = x.c.base /\ x.c.scale = x.c.scale /\ x.c.off = x.c.off /\ Hr x /\ Gl x /\ Iq x /\ Iw x /\ NY x /\ ON x /\ OJ x /\
 NG x /\ OQ x /\ Nh x /\ Lm x /\ Ku x /\ Oz x /\ JO /\ AO = AO /\ Lq x /\ MM x /\ Nc x /\ Dy /\ ∀ (i : Nat), i < 40 -> mtF x a_4 i = mtG x a_2.i
 a_2.j i) /\ Ni a_4 x /\ Oy x a_4 < Oy x a else (MH x).fst = decide ((↑x.l.length : Int) >= x.m) /\ P2 x) := by kernel_rfl
def CYM : Ann := ann 71 [(HW, C_openX.spec dC1)]
def CXE (x : Prv) : Prop := BA Try.prog CYM Wm (AL Wm) (xPrv x) (AG []) (.tup [.bool false, .int (AM x.c)]) [] [] []
theorem DCT (x : Prv) : (CXE x) = ((x.c.p.lo = x.c.p.lo /\ x.c.p.hi = x.c.p.hi /\ x.c.base = x.c.base /\ x.c.scale = x.c.scale /\ x.c.off = x.c.off /\ (AF x.c.ms.length λ (i : Nat) => gD x.c.ms i).length =
 x.c.ms.length /\ (∀ (i : Nat), i < (AF x.c.ms.length λ (i : Nat) => gD x.c.ms i).length -> (gD (AF x.c.ms.length λ (i : Nat) => gD x.c.ms i) i).pl = (gD x.c.ms i).pl /\ (gD (AF x.c.ms.length λ (i : Nat) => gD
 x.c.ms i) i).ht = (gD x.c.ms i).ht) /\ (AF x.c.ns.length λ (i : Nat) => gD x.c.ns i).length = x.c.ns.length /\ (∀ (i : Nat), i < (AF x.c.ns.length λ (i : Nat) => gD x.c.ns i).length -> (gD (AF x.c.ns.length λ (i :
 Nat) => gD x.c.ns i) i).mi = (gD x.c.ns i).mi /\ (gD (AF x.c.ns.length λ (i : Nat) => gD x.c.ns i) i).t.lo = (gD x.c.ns i).t.lo /\ (gD (AF x.c.ns.length λ (i : Nat) => gD x.c.ns i) i).t.hi = (gD x.c.ns i).t.hi /\ (gD
 (AF x.c.ns.length λ (i : Nat) => gD x.c.ns i) i).s.lo = (gD x.c.ns i).s.lo /\ (gD (AF x.c.ns.length λ (i : Nat) => gD x.c.ns i) i).s.hi = (gD x.c.ns i).s.hi) /\ ((AF x.c.ms.length λ (i : Nat) => gD x.c.ms
 i).length < 4611686018427387904 /\ (AF x.c.ns.length λ (i : Nat) => gD x.c.ns i).length < 4611686018427387904) /\ AM (Cht.mk x.c.p x.c.base x.c.scale x.c.off (AF x.c.ms.length λ (i : Nat) => gD x.c.ms i) (AF
 x.c.ns.length λ (i : Nat) => gD x.c.ns i)) ≠ 0) /\ bif AM (Cht.mk x.c.p x.c.base x.c.scale x.c.off (AF x.c.ms.length λ (i : Nat) => gD x.c.ms i) (AF x.c.ns.length λ (i : Nat) => gD x.c.ns i)) != 0 then false =
 false /\ AM x.c = AM (Cht.mk x.c.p x.c.base x.c.scale x.c.off (AF x.c.ms.length λ (i : Nat) => gD x.c.ms i) (AF x.c.ns.length λ (i : Nat) => gD x.c.ns i)) else bif decide ((↑x.l.length : Int) > 40) then
 false = false /\ AM x.c = 3 else False) := by kernel_rfl
theorem DLX {c : Cht} {p : Pr} (hn : c.ns.length < 1073741824) (h : IP c p = true) : ((0 <= p.a /\ p.a < c.ns.length) /\ 0 <= p.b /\ p.b < c.ns.length) /\ (nA c p).mi < (nB c p).mi := by
 unfold IP at h
 cases hq : BHE c.ns.length p with
 | false => rw [hq] at h; cases h
 | true =>
  rw [hq] at h
  have h : (bif (!(p.a == p.b && p.b == p.a)) then decide ((nA c p).mi < (nB c p).mi) else false) = true := h
  unfold BHE wr DT at hq
  rw [EN (by omega) (by omega)] at hq
  simp only [Bool.and_eq_true, decide_eq_true_eq] at hq
  refine ⟨⟨by omega, by omega⟩, ?_⟩
  cases hb : (!(p.a == p.b && p.b == p.a)) with
  | false => rw [hb] at h; cases h
  | true => rw [hb] at h; exact of_decide_eq_true h
theorem CQY {x : Prv} : ∀ {m k : Nat}, k <= m -> pvK x m = true -> pvK x k = true
 | 0, k, h, hm => by
  obtain rfl : k = 0 := by omega
  rfl
 | m + 1, k, h, hm => by
  by_cases hk : k = m + 1
  ·subst hk; exact hm
  ·have h2 : (pvK x m && Ac x.c (gD x.l m) && !hitJ (mtF x m) (YW x m).toNat (pvB x m - YW x m).toNat) = true := hm
   rw [Bool.and_eq_true, Bool.and_eq_true] at h2
   exact CQY (by omega) h2.1.1
theorem DCO {f : Nat -> Bool} {a : Nat} : ∀ {m k : Nat}, k <= m -> hitJ f a k = true -> hitJ f a m = true
 | 0, k, h, hm => by
  obtain rfl : k = 0 := by omega
  exact hm
 | m + 1, k, h, hm => by
  by_cases hk : k = m + 1
  ·subst hk; exact hm
  ·show (hitJ f a m || f (a + m)) = true
   rw [DCO (show k <= m by omega) hm]; rfl
theorem CYL {x : Prv} (h1 : ¬(x.l.length : Int) > 40) (h2 : (x.l.all λ p => IP x.c p) = true) {k : Nat} (hk : k < x.l.length) (h3 : pvK x (k + 1) = false) : (MH x).1 = false /\ (MH x).2 = 0 := by
 have h : pvK x x.l.length = false := by
  cases hq : pvK x x.l.length with
  | false => rfl
  | true => rw [CQY (show k + 1 <= x.l.length from hk) hq] at h3; cases h3
 unfold MH; rw [decide_eq_false h1, h2, h]; exact ⟨rfl, rfl⟩
theorem DQH (x : Prv) (h1 : x.c.ms.length < 4611686018427387904 /\ x.c.ns.length < 4611686018427387904 /\ x.l.length < 4611686018427387904) (h0 : AM x.c = 0) : DGO x := by
 have hl := DG h0
 have hs := SB h0
 have hM := DMN hs.1
 rw [DLM]; delta Fv Ee ABX AFQ BOD ADZ ACW ACH BXR BMX BGV lL rM AOC AUE ND hG gE BCN pG ARA Gh AKQ Hw AKZ Fi AZI AVV TM eN nW eS AMR BCB pY AQN lP Fr TA Hg SO Dw mU AOG gJ APK BHC AKR lX BEC mH BAL AZC AYU qW ALA pZ JO AXP qD qA AXU jZ ATL eP gT AYX AVE ALX oV AMW kS AMB AUS AUU mP BFU fG JS ARE BFF JM Ht Hz Hr Gl Iq Iw pU TW VF rC TZ ALG SZ VJ AVC SQ TG Dy Ni vZ NY ON OJ NG OQ Ot NW S0 L8 C1 OL KI H9 Pp YQ sS wF P5 R3 J5 C8 D6 MM Lo tO xA vQ tK vX M0 J9 sI P2 X1 HK Nh Lm Ku Oz Lq Nc Oy Mr Kr O4 Q2; simp only [AU, eq_self, implies_true, and_self, true_and, and_true, true_implies, forall_const, decide_eq_true_eq, decide_eq_false_iff_not, Int.toNat_natCast, dSpan_eSpan, dInt_eInt, AY, AW, AX, Nat.zero_add, Int.zero_sub, Nat.le_eq, Nat.succ_eq_add_one, Nat.add_one_le_iff, Bool.not_eq_true', Bool.not_eq_false', rng_length, AK, AJ, BI, BBK, RO, CSK, BWH, DNM]
 refine ⟨⟨⟨h1.1, h1.2.1⟩, h0⟩, λ hc => ?_, λ hc => ⟨⟨h1.2.2, by omega⟩, λ ha => ?_, λ ha => ⟨rfl, ⟨0, ⟨rfl, λ _ _ => rfl⟩, Nat.zero_le _, rfl⟩, ?_⟩⟩⟩
 ·unfold MH; rw [decide_eq_true hc]; exact ⟨rfl, rfl⟩
 ·unfold MH; rw [decide_eq_false hc, ha]; exact ⟨rfl, rfl⟩
 ·rintro k ⟨hk, hp⟩
  have hP : ∀ k, k < x.l.length -> _ := λ k hk => DLX (by omega) (List.all_eq_true.1 ha _ (RK hk))
  have mA : ∀ k, k < x.l.length -> 0 <= YW x k /\ YW x k < x.c.ms.length := λ k hk => hM _ (by have := (hP k hk).1; omega)
  have mB : ∀ k, k < x.l.length -> 0 <= pvB x k /\ pvB x k < x.c.ms.length := λ k hk => hM _ (by have := (hP k hk).1; omega)
  have mL : ∀ k, k < x.l.length -> YW x k < pvB x k := λ k hk => (hP k hk).2
  have eB : ∀ k, (gD x.c.ns (gD x.l k).b.toNat).mi = pvB x k := λ _ => rfl
  have eA : ∀ k, (gD x.c.ns (gD x.l k).a.toNat).mi = YW x k := λ _ => rfl
  refine ⟨λ hlt => ⟨⟨by omega, by omega⟩, ⟨(hP k (by omega)).1, ⟨hl.2.1.2, hl.2.2⟩, hM⟩, λ hL => ?_, λ hL => ⟨(hP k (by omega)).1.1, ⟨⟨k, 0⟩, ⟨by rw [eA]; show YW x k + ((0 : Nat) : Int) = _; omega, rfl, λ i hi => ?_, rfl, rfl⟩, ⟨by show k < _; omega, rfl⟩, ⟨hp, hL⟩, by have := mL k (by omega); show YW x k + ((0 : Nat) : Int) <= pvB x k; omega, rfl⟩, ?_⟩⟩, λ hge => ?_⟩
  ·refine CYL hc ha (k := k) (by omega) ?_
   show (pvK x k && Ac x.c (gD x.l k) && _) = false
   rw [hL]; simp
  ·show (mtF x k i || (decide (YW x k <= i) && decide ((i : Int) < YW x k + ((0 : Nat) : Int)))) = mtF x k i
   rw [show (decide (YW x k <= i) && decide ((i : Int) < YW x k + ((0 : Nat) : Int))) = false by simp, Bool.or_false]
  ·rintro ⟨i, j⟩ ⟨⟨y1, y2⟩, ⟨y3, y4⟩, y5, y6⟩
   dsimp only at y1 y2 y3 y4 y5 y6 ⊢
   simp only [eB]
   have a1 := mA i y1
   have b1 := mB i y1
   have l1 := mL i y1
   have e : (YW x i + (j : Int)).toNat = (YW x i).toNat + j := by omega
   have eG : mtG x i j ((YW x i).toNat + j) = mtF x i ((YW x i).toNat + j) := by
    show (mtF x i _ || (decide (YW x i <= _) && decide (_ < YW x i + (j : Int)))) = _
    rw [decide_eq_false (show ¬(((YW x i).toNat + j : Nat) : Int) < YW x i + (j : Int) by omega), Bool.and_false, Bool.or_false]
   refine ⟨(hP i y1).1.2, λ hb => ⟨⟨⟨by omega, by omega⟩, by omega⟩, λ hm => ?_, λ hm => ⟨⟨⟨by omega, by omega⟩, by omega⟩, ⟨i, j + 1⟩, ⟨?_, rfl, λ t ht => ?_, rfl, rfl⟩, ⟨⟨y1, y2⟩, ⟨y3, y4⟩, by show YW x i + ((j + 1 : Nat) : Int) <= pvB x i; omega, ?_⟩, by show 50 - (j + 1) < _; omega⟩⟩, λ hb => ⟨i + 1, ⟨by rw [EN (by omega) (by omega)]; rfl, λ t ht => ?_⟩, ⟨by omega, ?_⟩, by omega⟩⟩
   ·rw [e, eG] at hm
    refine CYL hc ha (k := i) y1 ?_
    have h9 : hitJ (mtF x i) (YW x i).toNat (j + 1) = true := by
     show (hitJ _ _ _ || _) = true
     rw [hm, Bool.or_true]
    show (pvK x i && Ac x.c (gD x.l i) && !hitJ _ _ _) = false
    rw [DCO (show j + 1 <= (pvB x i - YW x i).toNat by omega) h9]; simp
   ·show YW x i + ((j + 1 : Nat) : Int) = _
    rw [EN (by omega) (by omega)]; omega
   ·show (mtF x i t || (decide (YW x i <= t) && decide ((t : Int) < YW x i + ((j + 1 : Nat) : Int)))) = bif _ then true else (mtF x i t || (decide (YW x i <= t) && decide ((t : Int) < YW x i + (j : Int))))
    rw [e]
    by_cases h7 : t = (YW x i).toNat + j
    ·rw [decide_eq_true h7, decide_eq_true (show YW x i <= t by omega), decide_eq_true (show (t : Int) < YW x i + ((j + 1 : Nat) : Int) by omega)]; simp
    ·rw [decide_eq_false h7]
     show _ = (mtF x i t || _)
     congr 2
     exact decide_eq_decide.2 (by omega)
   ·rw [e, eG] at hm
    show (hitJ _ _ _ || _) = false
    rw [y6, hm]; rfl
   ·have e3 : YW x i + (j : Int) = pvB x i := by omega
    show (mtF x i t || _) = (mtF x i t || (decide (YW x i <= t) && decide ((t : Int) < YW x i + (j : Int))))
    rw [e3]
   ·have e3 : (pvB x i - YW x i).toNat = j := by omega
    show (pvK x i && Ac x.c (gD x.l i) && !hitJ _ _ _) = true
    rw [e3, y3, y4, y6]; rfl
  ·have e : k = x.l.length := by omega
   subst e
   unfold MH; rw [decide_eq_false hc, ha, hp]; exact ⟨by simp, rfl⟩
theorem DIW : AN Try.prog BYE (C_prov.spec dPrv) := okT C_prov (λ (x : Prv) h => by
 have h1 : x.c.ms.length < 4611686018427387904 /\ x.c.ns.length < 4611686018427387904 /\ x.l.length < 4611686018427387904 := h
 by_cases h0 : AM x.c = 0
 ·have e : C_prov.val x = .tup [.bool (MH x).1, .int (MH x).2] := by
   show AVal.tup [.bool (BHI x).1, .int (BHI x).2] = _
   unfold BHI; rw [h0]; rfl
  rw [e]
  exact PJ (A := DDD x) (L := []) (keep := []) (ren := []) (fz := []) CDU (by kernel_rfl) (AD AHN (AD DTA (AD CWY AI))) (DQH x h1 h0)
 ·have h0' : (AM x.c == 0) = false := by simpa using h0
  have e : C_prov.val x = .tup [.bool false, .int (AM x.c)] := by
   show AVal.tup [.bool (BHI x).1, .int (BHI x).2] = _
   unfold BHI; rw [h0']; rfl
  rw [e]
  refine PJ (A := CYM) (L := []) (keep := []) (ren := []) (fz := []) CDU (by kernel_rfl) (AD AEM AI) ?_
  show CXE x; rw [DCT]; simp only [AU, eq_self, implies_true, and_self, true_and, and_true, true_implies, forall_const, decide_eq_true_eq, decide_eq_false_iff_not, Int.toNat_natCast, dSpan_eSpan, dInt_eInt, AY, AW, AX, Nat.zero_add, Int.zero_sub, Nat.le_eq, Nat.succ_eq_add_one, Nat.add_one_le_iff, Bool.not_eq_true', Bool.not_eq_false', rng_length, AK, AJ, BI]
  simp [h1, h0]) _
end Go.Bal
