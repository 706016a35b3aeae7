/- Package chart: Late, Proves. -/
import Derived.Test.YtdbjalgfomknhaaChK
set_option linter.unusedVariables false
set_option linter.unusedSimpArgs false
namespace Go.Bal
open Go Go.Sym Go.Proofs
structure Prv where
 c : Cht
 m : Int
 l : List Pr
def dPrv : List AVal -> Heap -> Option (Prv × List (Nat × Nat) × List Nat)
 | [x, .d m, y], H => match AVK x H, dRow y H with
  | some (c, f), some (n, g, e) => some (⟨c, JQ m, HX n λ i => dPr (g i)⟩, [], f ++ e)
  | _, _ => none
 | _, _ => none
def xPrv (x : Prv) : List AVal := [.d (Rc x.c), .int x.m, .d (Wt x.l)]
def Mh (x : Prv) (k : Nat) : Int := (nA x.c (gD x.l k)).mi
def pvB (x : Prv) (k : Nat) : Int := (nB x.c (gD x.l k)).mi
def mtF (x : Prv) : Nat -> Nat -> Bool
 | 0, _ => false
 | k + 1, i => mtF x k i || (decide (Mh x k <= i) && decide ((i : Int) < pvB x k))
def hitJ (f : Nat -> Bool) (a : Nat) : Nat -> Bool
 | 0 => false
 | j + 1 => hitJ f a j || f (a + j)
def pvK (x : Prv) : Nat -> Bool
 | 0 => true
 | k + 1 => pvK x k && XN x.c (gD x.l k) && !hitJ (mtF x k) (Mh x k).toNat (pvB x k - Mh x k).toNat
def Fl (x : Prv) : Bool × Int := bif decide ((x.l.length : Int) > 40) then (false, 3) else bif !(x.l.all λ p => OS x.c p) then (false, 2) else (pvK x x.l.length && decide ((x.l.length : Int) >= x.m), 0)
def QY (x : Prv) : Bool × Int := bif BF x.c == 0 then Fl x else (false, BF x.c)
def C_prov : Ctr := { α := Prv, xs := xPrv, val := λ x => .tup [.bool (QY x).1, .int (QY x).2], keep := λ _ => [], pre := λ x => [x.c.ms.length < 4611686018427387904 /\ x.c.ns.length < 4611686018427387904 /\ x.l.length < 4611686018427387904] }
def pvS (x : Prv) (k : Nat) : List (Nat × AVal) := [(1, .int x.m), (2, .d (Wt x.l)), (3, .bptr 201 0), (8, .bptr 203 0), (10, .rptr 205 1 0 0), (33, .d (Wt x.l)), (34, .int x.l.length), (35, .int k)]
def pvH (x : Prv) (f : Nat -> Bool) : List (Nat × HCell) := [(201, .live (chB x.c)), (203, .live (dkB (AT x.c) 204)), (204, .live (dkM (AT x.c))), (205, .live (.row 1 40 λ i => .v (.bool (f i))))]
def pv10 (x : Prv) : Shape := { α := Nat, dflt := 0, T := λ k => ⟨pvS x k, pvH x (mtF x k)⟩, inv := λ k => k <= x.l.length /\ pvK x k = true, meas := λ k => x.l.length - k, first := [(201, 1000), (203, 2016), (204, 2017), (205, 9000)] }
def mtG (x : Prv) (k j : Nat) : Nat -> Bool := λ i => mtF x k i || (decide (Mh x k <= i) && decide ((i : Int) < Mh x k + j))
def pv15 (x : Prv) (m : Nat) : Shape := { α := IJ, dflt := default, T := λ s => ⟨[(12, .bptr 206 0), (13, .int (Mh x s.i + s.j))] ++ pvS x s.i, pvH x (mtG x s.i s.j) ++ [(206, .live (.box [.int (gD x.l s.i).a, .int (gD x.l s.i).b]))]⟩, inv := λ s => (s.i < x.l.length /\ x.l.length - s.i = m) /\ (pvK x s.i = true /\ XN x.c (gD x.l s.i) = true) /\ (Mh x s.i + s.j <= pvB x s.i /\ hitJ (mtF x s.i) (Mh x s.i).toNat s.j = false), meas := λ s => 50 - s.j, first := [(206, 12032)] }
def BOA (x : Prv) : Ann := { ann 71 [(VE, C_open.spec dC1), (n_eP, C4Pp.spec d4Pp), (BAG, C_late.spec dDkP)] with loops := λ id => if id = 10 then some [pv10 x] else none, inner := λ gs id => if id = 15 then some [pv15 x (gs.getD 0 0)] else none }
def BUT (x : Prv) : Prop := DN Try.prog (BOA x) X2 (AP X2) (xPrv x) (AH []) (.tup [.bool (Fl x).1, .int (Fl x).2]) [] [] []
abbrev nL (x : Prv) : Prop := x.c.p.lo = x.c.p.lo
abbrev nX (x : Prv) : Prop := x.c.p.hi = x.c.p.hi
abbrev ANH (x : Prv) : List Mk := HX x.c.ms.length λ (i : Nat) => gD x.c.ms i
abbrev AOV (x : Prv) : Nat := (ANH x).length
abbrev AYM (x : Prv) (i : Nat) : Mk := gD (ANH x) i
abbrev ANN (x : Prv) : List Nt := HX x.c.ns.length λ (i : Nat) => gD x.c.ns i
abbrev AOO (x : Prv) : Nat := (ANN x).length
abbrev AOT (x : Prv) (i : Nat) : Nt := gD (ANN x) i
abbrev BBA (x : Prv) (i : Nat) : Span := (AOT x i).t
abbrev BAF (x : Prv) (i : Nat) : Span := (AOT x i).s
abbrev ASX (x : Prv) : Cht := Cht.mk x.c.p x.c.base x.c.scale x.c.off (ANH x) (ANN x)
abbrev AFN (x : Prv) : List Pr := HX x.l.length λ (i : Nat) => gD x.l i
abbrev AFS (x : Prv) : Nat := (AFN x).length
abbrev AQX (x : Prv) (i : Nat) : Pr := gD (AFN x) i
abbrev AVB (x : Prv) : Dk := AT (ASX x)
abbrev Ng (x : Prv) : Cht := (AVB x).c
abbrev AFY (x : Prv) : Span := (Ng x).p
abbrev ADW (x : Prv) : Int := (AFY x).lo
abbrev ATM (x : Prv) : Prop := ADW x = ADW x
abbrev AEN (x : Prv) : Int := (AFY x).hi
abbrev ARN (x : Prv) : Prop := AEN x = AEN x
abbrev nY (x : Prv) : Int := (Ng x).base
abbrev AQF (x : Prv) : Prop := nY x = nY x
abbrev oD (x : Prv) : Int := (Ng x).scale
abbrev ATY (x : Prv) : Prop := oD x = oD x
abbrev nP (x : Prv) : Int := (Ng x).off
abbrev AUP (x : Prv) : Prop := nP x = nP x
abbrev ASJ (x : Prv) : List Mk := (Ng x).ms
abbrev Xo (x : Prv) : Nat := (ASJ x).length
abbrev AGC (x : Prv) (i : Nat) : Mk := gD (ASJ x) i
abbrev AGD (x : Prv) : List Mk := HX (Xo x) λ (i : Nat) => AGC x i
abbrev ADT (x : Prv) : Nat := (AGD x).length
abbrev AUL (x : Prv) (i : Nat) : Mk := gD (AGD x) i
abbrev AUS (x : Prv) (i : Nat) : Int := (AUL x i).pl
abbrev AFG (x : Prv) (i : Nat) : Int := (AGC x i).pl
abbrev AUX (x : Prv) (i : Nat) : Int := (AUL x i).ht
abbrev AEP (x : Prv) (i : Nat) : Int := (AGC x i).ht
abbrev nT (x : Prv) : List Nt := (Ng x).ns
abbrev Wz (x : Prv) : Nat := (nT x).length
abbrev nE (x : Prv) (i : Nat) : Nt := gD (nT x) i
abbrev Xi (x : Prv) : List Nt := HX (Wz x) λ (i : Nat) => nE x i
abbrev mC (x : Prv) : Nat := (Xi x).length
abbrev AEA (x : Prv) (i : Nat) : Nt := gD (Xi x) i
abbrev AQN (x : Prv) (i : Nat) : Int := (AEA x i).mi
abbrev AFB (x : Prv) (i : Nat) : Int := (nE x i).mi
abbrev ASW (x : Prv) (i : Nat) : Span := (AEA x i).t
abbrev ARP (x : Prv) (i : Nat) : Int := (ASW x i).lo
abbrev AUM (x : Prv) (i : Nat) : Span := (nE x i).t
abbrev AGF (x : Prv) (i : Nat) : Int := (AUM x i).lo
abbrev ARV (x : Prv) (i : Nat) : Int := (ASW x i).hi
abbrev AGA (x : Prv) (i : Nat) : Int := (AUM x i).hi
abbrev AQP (x : Prv) (i : Nat) : Span := (AEA x i).s
abbrev ATC (x : Prv) (i : Nat) : Int := (AQP x i).lo
abbrev ARH (x : Prv) (i : Nat) : Span := (nE x i).s
abbrev AFL (x : Prv) (i : Nat) : Int := (ARH x i).lo
abbrev AVE (x : Prv) (i : Nat) : Int := (AQP x i).hi
abbrev AFV (x : Prv) (i : Nat) : Int := (ARH x i).hi
abbrev Dw : Prop := ∀ (i : Nat), i < 40 -> false = false
abbrev ASG (x : Prv) (n : Int) : Bool := hasN (Xi x) n
abbrev AEW (x : Prv) (n : Int) : Bool := hasN (nT x) n
abbrev AFE (x : Prv) (n : Int) : Int := (AVB x).st n
abbrev ATX (x : Prv) : Prop := ∀ (n : Int), AFE x n = AFE x n
abbrev AEY (x : Prv) (n : Int) : Nt := ntOf (Xi x) n
abbrev ATK (x : Prv) (n : Int) : Int := (AEY x n).mi
abbrev AEH (x : Prv) (n : Int) : Nt := ntOf (nT x) n
abbrev AEL (x : Prv) (n : Int) : Int := (AEH x n).mi
abbrev APU (x : Prv) (n : Int) : Span := (AEY x n).t
abbrev ATT (x : Prv) (n : Int) : Int := (APU x n).lo
abbrev ATG (x : Prv) (n : Int) : Span := (AEH x n).t
abbrev ADS (x : Prv) (n : Int) : Int := (ATG x n).lo
abbrev ASB (x : Prv) (n : Int) : Int := (APU x n).hi
abbrev AET (x : Prv) (n : Int) : Int := (ATG x n).hi
abbrev AUE (x : Prv) (n : Int) : Span := (AEY x n).s
abbrev APX (x : Prv) (n : Int) : Int := (AUE x n).lo
abbrev AVA (x : Prv) (n : Int) : Span := (AEH x n).s
abbrev AEE (x : Prv) (n : Int) : Int := (AVA x n).lo
abbrev AQL (x : Prv) (n : Int) : Int := (AUE x n).hi
abbrev ADV (x : Prv) (n : Int) : Int := (AVA x n).hi
abbrev Dx (x : Prv) : Prop := x.l.length = x.l.length
abbrev AQZ (x : Prv) (i : Nat) : Prop := (gD x.l i).a = (gD x.l i).a
abbrev ARX (x : Prv) (i : Nat) : Prop := (gD x.l i).b = (gD x.l i).b
abbrev Dt (x : Prv) : Prop := ∀ (i : Nat), i < x.l.length -> AQZ x i /\ ARX x i
abbrev mV : Prop := 0 = 0
abbrev nQ (x : Prv) : Prop := (↑x.l.length : Int) = (↑x.l.length : Int)
abbrev nO (x : Prv) : Prop := x.c.ms.length = x.c.ms.length
abbrev nR (x : Prv) : Prop := ∀ (i : Nat), i < x.c.ms.length -> (gD x.c.ms i).pl = (gD x.c.ms i).pl /\ (gD x.c.ms i).ht = (gD x.c.ms i).ht
abbrev lY (x : Prv) : Prop := x.c.ns.length = x.c.ns.length
abbrev nN (x : Prv) : Prop := ∀ (i : Nat), i < x.c.ns.length -> (gD x.c.ns i).mi = (gD x.c.ns i).mi /\ (gD x.c.ns i).t.lo = (gD x.c.ns i).t.lo /\ (gD x.c.ns i).t.hi = (gD x.c.ns i).t.hi /\ (gD x.c.ns i).s.lo = (gD
 x.c.ns i).s.lo /\ (gD x.c.ns i).s.hi = (gD x.c.ns i).s.hi
abbrev AEG (i : Nat) (x : Prv) : Prop := i < (AT x.c).c.ms.length
abbrev Xd (x : Prv) (i : Nat) : Int := (gD (AT x.c).c.ms i).pl
abbrev Xe (x : Prv) (i : Nat) : Int := (gD (AT x.c).c.ms i).ht
abbrev AEC (i : Nat) (x : Prv) : Prop := i < (AT x.c).c.ns.length
abbrev Xh (x : Prv) (i : Nat) : Int := (gD (AT x.c).c.ns i).mi
abbrev ASY (x : Prv) (i : Nat) : Span := (gD (AT x.c).c.ns i).t
abbrev Xc (x : Prv) (i : Nat) : Int := (ASY x i).lo
abbrev Xf (x : Prv) (i : Nat) : Int := (ASY x i).hi
abbrev ATQ (x : Prv) (i : Nat) : Span := (gD (AT x.c).c.ns i).s
abbrev Xm (x : Prv) (i : Nat) : Int := (ATQ x i).lo
abbrev Xn (x : Prv) (i : Nat) : Int := (ATQ x i).hi
abbrev lW : Prop := 40 = 40
abbrev tE (a : Nat) (x : Prv) : Prop := a <= x.l.length /\ pvK x a = true
abbrev AKO (a : Nat) (x : Prv) : Prop := (↑a : Int) < (↑x.l.length : Int)
abbrev Ny (x : Prv) : Prop := (AT x.c).c.p.lo = (AT x.c).c.p.lo
abbrev Nr (x : Prv) : Prop := (AT x.c).c.p.hi = (AT x.c).c.p.hi
abbrev Pe (x : Prv) : Prop := (AT x.c).c.base = (AT x.c).c.base
abbrev Pb (x : Prv) : Prop := (AT x.c).c.scale = (AT x.c).c.scale
abbrev Nx (x : Prv) : Prop := (AT x.c).c.off = (AT x.c).c.off
abbrev uB (x : Prv) : List Mk := HX (AT x.c).c.ms.length λ (i : Nat) => gD (AT x.c).c.ms i
abbrev Nk (x : Prv) : Nat := (uB x).length
abbrev AJW (x : Prv) (i : Nat) : Mk := gD (uB x) i
abbrev AMW (x : Prv) (i : Nat) : Int := (AJW x i).pl
abbrev AHJ (x : Prv) (i : Nat) : Int := (AJW x i).ht
abbrev Nb (x : Prv) : List Nt := HX (AT x.c).c.ns.length λ (i : Nat) => gD (AT x.c).c.ns i
abbrev Hw (x : Prv) : Nat := (Nb x).length
abbrev AMS (i : Nat) (x : Prv) : Prop := i < Hw x
abbrev qP (x : Prv) (i : Nat) : Nt := gD (Nb x) i
abbrev aJ (x : Prv) (i : Nat) : Int := (qP x i).mi
abbrev AKY (x : Prv) (i : Nat) : Span := (qP x i).t
abbrev AMH (x : Prv) (i : Nat) : Int := (AKY x i).lo
abbrev AHX (x : Prv) (i : Nat) : Int := (AKY x i).hi
abbrev ALE (x : Prv) (i : Nat) : Span := (qP x i).s
abbrev AIM (x : Prv) (i : Nat) : Int := (ALE x i).lo
abbrev AKS (x : Prv) (i : Nat) : Int := (ALE x i).hi
abbrev AKI (x : Prv) (n : Int) : Bool := hasN (Nb x) n
abbrev Oy (x : Prv) : Prop := ∀ (n : Int), (AT x.c).st n = (AT x.c).st n
abbrev qK (x : Prv) (n : Int) : Nt := ntOf (Nb x) n
abbrev ALU (x : Prv) (n : Int) : Int := (qK x n).mi
abbrev AJO (x : Prv) (n : Int) : Span := (qK x n).t
abbrev AJS (x : Prv) (n : Int) : Int := (AJO x n).lo
abbrev AJD (x : Prv) (n : Int) : Int := (AJO x n).hi
abbrev AHW (x : Prv) (n : Int) : Span := (qK x n).s
abbrev AJC (x : Prv) (n : Int) : Int := (AHW x n).lo
abbrev ALI (x : Prv) (n : Int) : Int := (AHW x n).hi
abbrev ALG (x : Prv) (a : Nat) : Prop := 0 <= (gD x.l a).a
abbrev ALO (x : Prv) : Prop := (Fl x).snd = 0
abbrev AIF (x : Prv) : Prop := (Fl x).fst = false /\ ALO x
abbrev ZL (x : Prv) (a : IJ) : Int := Mh x a.i + (↑a.j : Int)
abbrev pZ (x : Prv) : Prop := (AT x.c).c.ms.length = (AT x.c).c.ms.length
abbrev oM (x : Prv) : Prop := ∀ (i : Nat), AEG i x -> Xd x i = Xd x i /\ Xe x i = Xe x i
abbrev tM (x : Prv) : Prop := (AT x.c).c.ns.length = (AT x.c).c.ns.length
abbrev qW (x : Prv) : Prop := ∀ (i : Nat), AEC i x -> Xh x i = Xh x i /\ Xc x i = Xc x i /\ Xf x i = Xf x i /\ Xm x i = Xm x i /\ Xn x i = Xn
 x i
abbrev tP (x : Prv) : Prop := ∀ (n : Int), hasN (AT x.c).c.ns n = hasN (AT x.c).c.ns n
abbrev pX (x : Prv) : Prop := ∀ (n : Int), (ntOf (AT x.c).c.ns n).mi = (ntOf (AT x.c).c.ns n).mi /\ (ntOf (AT x.c).c.ns n).t.lo = (ntOf (AT x.c).c.ns n).t.lo /\ (ntOf (AT x.c).c.ns n).t.hi = (ntOf (AT
 x.c).c.ns n).t.hi /\ (ntOf (AT x.c).c.ns n).s.lo = (ntOf (AT x.c).c.ns n).s.lo /\ (ntOf (AT x.c).c.ns n).s.hi = (ntOf (AT x.c).c.ns n).s.hi
abbrev tL (x : Prv) (a : Nat) : Nat := x.l.length - a
abbrev pM (a : IJ) (x : Prv) (a1 : Nat) : Prop := (a.i < x.l.length /\ x.l.length - a.i = tL x a1) /\ (pvK x a.i = true /\ XN x.c (gD x.l a.i) = true) /\ ZL x a <= pvB x a.i /\ hitJ (mtF x a.i) (Mh
 x a.i).toNat a.j = false
abbrev pN (x : Prv) (a : IJ) : Nat := (ZL x a).toNat
abbrev AKN (x : Prv) (a : IJ) : Prop := (0 <= ZL x a /\ ZL x a < (↑40 : Int)) /\ (pN x a).succ.le 40
abbrev AIO (a : IJ) : Nat := 50 - a.j
theorem CCQ (x : Prv) : (BUT x) = ((nL x /\ nX x /\ x.c.base = x.c.base /\ x.c.scale = x.c.scale /\ x.c.off = x.c.off /\ AOV x = x.c.ms.length /\ (∀ (i : Nat), i < AOV x -> (AYM x i).pl = (gD
 x.c.ms i).pl /\ (AYM x i).ht = (gD x.c.ms i).ht) /\ AOO x = x.c.ns.length /\ (∀ (i : Nat), i < AOO x -> (AOT x i).mi = (gD x.c.ns i).mi /\ (BBA x i).lo = (gD x.c.ns i).t.lo /\ (BBA x i).hi = (gD
 x.c.ns i).t.hi /\ (BAF x i).lo = (gD x.c.ns i).s.lo /\ (BAF x i).hi = (gD x.c.ns i).s.hi) /\ (AOV x < 4611686018427387904 /\ AOO x < 4611686018427387904) /\ BF (ASX x) = 0) /\ bif decide
 ((↑x.l.length : Int) > 40) then (Fl x).fst = false /\ (Fl x).snd = 3 else (AFS x = x.l.length /\ (∀ (i : Nat), i < AFS x -> (AQX x i).a = (gD x.l i).a /\ (AQX x i).b = (gD x.l i).b) /\ ATM
 x /\ ARN x /\ AQF x /\ ATY x /\ AUP x /\ ADT x = Xo x /\ (∀ (i : Nat), i < ADT x -> AUS x i = AFG x i /\ AUX x i = AEP x i) /\ mC x = Wz x /\ (∀ (i :
 Nat), i < mC x -> AQN x i = AFB x i /\ ARP x i = AGF x i /\ ARV x i = AGA x i /\ ATC x i = AFL x i /\ AVE x i = AFV x i) /\ Dw /\ D2 = D2 /\ (∀ (n :
 Int), ASG x n = AEW x n) /\ ATX x /\ (∀ (n : Int), ATK x n = AEL x n /\ ATT x n = ADS x n /\ ASB x n = AET x n /\ APX x n = AEE x n /\ AQL x n = ADV
 x n) /\ ATM x /\ ARN x /\ AQF x /\ ATY x /\ AUP x /\ Xo x = ADT x /\ (∀ (i : Nat), i < Xo x -> AFG x i = AUS x i /\ AEP x i = AUX x i) /\ Wz x =
 mC x /\ (∀ (i : Nat), i < Wz x -> AFB x i = AQN x i /\ AGF x i = ARP x i /\ AGA x i = ARV x i /\ AFL x i = ATC x i /\ AFV x i = AVE x i) /\ Dw /\
 D2 = D2 /\ (∀ (n : Int), AEW x n = ASG x n) /\ ATX x /\ (∀ (n : Int), AEL x n = ATK x n /\ ADS x n = ATT x n /\ AET x n = ASB x n /\ AEE x n = APX x n /\
 ADV x n = AQL x n) /\ AFS x < 4611686018427387904 /\ mC x < 1073741824) /\ bif !(AFN x).all λ (x_1 : Pr) => OS (Cht.mk (AFY x) (nY x) (oD x) (nP x) (AGD
 x) (Xi x)) x_1 then (Fl x).fst = false /\ (Fl x).snd = 2 else (Value.agg #[Value.bool false, Value.bool false, Value.bool false, Value.bool false, Value.bool false, Value.bool false, Value.bool false,
 Value.bool false, Value.bool false, Value.bool false, Value.bool false, Value.bool false, Value.bool false, Value.bool false, Value.bool false, Value.bool false, Value.bool false, Value.bool false, Value.bool false,
 Value.bool false, Value.bool false, Value.bool false, Value.bool false, Value.bool false, Value.bool false, Value.bool false, Value.bool false, Value.bool false, Value.bool false, Value.bool false, Value.bool false,
 Value.bool false, Value.bool false, Value.bool false, Value.bool false, Value.bool false, Value.bool false, Value.bool false, Value.bool false, Value.bool false]).cells.toList = (List.replicate 40 (Value.bool
 false).cells.toList).flatten /\ (∃ (a : Nat), (x.m = x.m /\ Dx x /\ Dt x /\ mV /\ Dx x /\ Dt x /\ nQ x /\ (↑a : Int) = 0 /\ nL x /\ nX x /\ x.c.base = x.c.base /\ x.c.scale =
 x.c.scale /\ x.c.off = x.c.off /\ nO x /\ nR x /\ lY x /\ nN x /\ (AT x.c).c.p.lo = ADW x /\ (AT x.c).c.p.hi = AEN x /\ (AT x.c).c.base = nY x /\ (AT x.c).c.scale = oD
 x /\ (AT x.c).c.off = nP x /\ (AT x.c).c.ms.length = Xo x /\ (∀ (i : Nat), AEG i x -> Xd x i = AFG x i /\ Xe x i = AEP x i) /\ (AT x.c).c.ns.length = Wz x /\ (∀ (i :
 Nat), AEC i x -> Xh x i = AFB x i /\ Xc x i = AGF x i /\ Xf x i = AGA x i /\ Xm x i = AFL x i /\ Xn x i = AFV x i) /\ Dw /\ D2 = D2 /\ (∀ (n : Int),
 hasN (AT x.c).c.ns n = AEW x n) /\ (∀ (n : Int), (AT x.c).st n = AFE x n) /\ (∀ (n : Int), (ntOf (AT x.c).c.ns n).mi = AEL x n /\ (ntOf (AT x.c).c.ns n).t.lo = ADS x n /\ (ntOf (AT x.c).c.ns
 n).t.hi = AET x n /\ (ntOf (AT x.c).c.ns n).s.lo = AEE x n /\ (ntOf (AT x.c).c.ns n).s.hi = ADV x n) /\ lW /\ ∀ (i : Nat), i < 40 -> mtF x a i = false) /\ tE a x) /\ ∀ (a : Nat), tE
 a x -> bif decide (AKO a x) then (0 <= (↑a : Int) /\ AKO a x) /\ (AQZ x a /\ ARX x a /\ Ny x /\ Nr x /\ Pe x /\ Pb x /\ Nx x /\ Nk x = (AT x.c).c.ms.length
 /\ (∀ (i : Nat), i < Nk x -> AMW x i = Xd x i /\ AHJ x i = Xe x i) /\ Hw x = (AT x.c).c.ns.length /\ (∀ (i : Nat), AMS i x -> aJ x i = Xh x i /\ AMH x i
 = Xc x i /\ AHX x i = Xf x i /\ AIM x i = Xm x i /\ AKS x i = Xn x i) /\ Dw /\ D2 = D2 /\ (∀ (n : Int), AKI x n = hasN (AT x.c).c.ns n) /\ Oy x /\ (∀ (n
 : Int), ALU x n = (ntOf (AT x.c).c.ns n).mi /\ AJS x n = (ntOf (AT x.c).c.ns n).t.lo /\ AJD x n = (ntOf (AT x.c).c.ns n).t.hi /\ AJC x n = (ntOf (AT x.c).c.ns n).s.lo /\ ALI x n =
 (ntOf (AT x.c).c.ns n).s.hi) /\ Ny x /\ Nr x /\ Pe x /\ Pb x /\ Nx x /\ (AT x.c).c.ms.length = Nk x /\ (∀ (i : Nat), AEG i x -> Xd x i = AMW x i /\ Xe
 x i = AHJ x i) /\ (AT x.c).c.ns.length = Hw x /\ (∀ (i : Nat), AEC i x -> Xh x i = aJ x i /\ Xc x i = AMH x i /\ Xf x i = AHX x i /\ Xm x i = AIM
 x i /\ Xn x i = AKS x i) /\ Dw /\ D2 = D2 /\ (∀ (n : Int), hasN (AT x.c).c.ns n = AKI x n) /\ Oy x /\ (∀ (n : Int), (ntOf (AT x.c).c.ns n).mi = ALU x n /\ (ntOf (AT x.c).c.ns
 n).t.lo = AJS x n /\ (ntOf (AT x.c).c.ns n).t.hi = AJD x n /\ (ntOf (AT x.c).c.ns n).s.lo = AJC x n /\ (ntOf (AT x.c).c.ns n).s.hi = ALI x n) /\ ((ALG x a /\ (gD x.l a).a <
 (↑(Hw x) : Int)) /\ 0 <= (gD x.l a).b /\ (gD x.l a).b < (↑(Hw x) : Int)) /\ (Nk x <= 40 /\ Hw x <= 20) /\ ∀ (i : Nat), AMS i x -> 0 <= aJ x i /\ aJ x i < (↑(Nk x) :
 Int)) /\ bif !XN (Cht.mk (AT x.c).c.p (AT x.c).c.base (AT x.c).c.scale (AT x.c).c.off (uB x) (Nb x)) (gD x.l a) then AIF x else (ALG x a /\ (gD x.l a).a < (↑x.c.ns.length : Int)) /\
 (∃ (a_2 : IJ), (ZL x a_2 = (gD x.c.ns (gD x.l a).a.toNat).mi /\ x.m = x.m /\ Dx x /\ Dt x /\ mV /\ Dx x /\ Dt x /\ nQ x /\ (↑a_2.i : Int) = (↑a : Int) /\ nL x /\ nX x /\
 x.c.base = x.c.base /\ x.c.scale = x.c.scale /\ x.c.off = x.c.off /\ nO x /\ nR x /\ lY x /\ nN x /\ Ny x /\ Nr x /\ Pe x /\ Pb x /\ Nx x /\ pZ x /\
 oM x /\ tM x /\ qW x /\ Dw /\ D2 = D2 /\ tP x /\ Oy x /\ pX x /\ lW /\ (∀ (i : Nat), i < 40 -> mtG x a_2.i a_2.j i = mtF x a i) /\ (gD x.l a_2.i).a = (gD x.l a).a /\
 (gD x.l a_2.i).b = (gD x.l a).b) /\ pM a_2 x a) /\ ∀ (a_2 : IJ), pM a_2 x a -> (0 <= (gD x.l a_2.i).b /\ (gD x.l a_2.i).b < (↑x.c.ns.length : Int)) /\ bif decide (ZL x a_2 < (gD x.c.ns (gD x.l
 a_2.i).b.toNat).mi) then AKN x a_2 /\ bif mtG x a_2.i a_2.j (pN x a_2) then AIF x else AKN x a_2 /\ ∃ (a_4 : IJ), (ZL x a_4 = IntKind.i64.wrap (ZL x a_2 + 1) /\ x.m = x.m /\
 Dx x /\ Dt x /\ mV /\ Dx x /\ Dt x /\ nQ x /\ (↑a_4.i : Int) = (↑a_2.i : Int) /\ nL x /\ nX x /\ x.c.base = x.c.base /\ x.c.scale = x.c.scale /\ x.c.off = x.c.off /\ nO x
 /\ nR x /\ lY x /\ nN x /\ Ny x /\ Nr x /\ Pe x /\ Pb x /\ Nx x /\ pZ x /\ oM x /\ tM x /\ qW x /\ Dw /\ D2 = D2 /\ tP x /\
 Oy x /\ pX x /\ lW /\ (∀ (i : Nat), i < 40 -> mtG x a_4.i a_4.j i = bif decide (i = pN x a_2) then true else mtG x a_2.i a_2.j i) /\ (gD x.l a_4.i).a = (gD x.l a_2.i).a /\ (gD x.l a_4.i).b = (gD
 x.l a_2.i).b) /\ pM a_4 x a /\ AIO a_4 < AIO a_2 else ∃ (a_4 : Nat), (x.m = x.m /\ Dx x /\ Dt x /\ mV /\ Dx x /\ Dt x /\ nQ x /\ (↑a_4 : Int) = IntKind.i64.wrap
 ((↑a_2.i : Int) + 1) /\ nL x /\ nX x /\ x.c.base = x.c.base /\ x.c.scale = x.c.scale /\ x.c.off = x.c.off /\ nO x /\ nR x /\ lY x /\ nN x /\ Ny x /\ Nr x /\ Pe x /\
 Pb x /\ Nx x /\ pZ x /\ oM x /\ tM x /\ qW x /\ Dw /\ D2 = D2 /\ tP x /\ Oy x /\ pX x /\ lW /\ ∀ (i : Nat), i < 40 -> mtF x a_4 i = mtG x a_2.i
 a_2.j i) /\ tE a_4 x /\ tL x a_4 < tL x a else (Fl x).fst = decide ((↑x.l.length : Int) >= x.m) /\ ALO x) := by kernel_rfl
def BGF : Ann := ann 71 [(VE, C_openX.spec dC1)]
def BII (x : Prv) : Prop := DN Try.prog BGF X2 (AP X2) (xPrv x) (AH []) (.tup [.bool false, .int (BF x.c)]) [] [] []
abbrev uZ:=Prv.c
attribute [go_sem] uZ
theorem BLJ (x : Prv) : (BII x) = (JL (NP (uZ x) (uZ x) (uZ x) (uZ x) (OY (IG (uZ x)))) (Jq (uZ x)) (ED Sw) (XZ (uZ x) (IG (uZ x))) (TI (Sb (BW (LH (Prv.l x))) 40) (ED Sw) (XZ (uZ x) 3) JY)) := by kernel_rfl
theorem AXJ {c : Cht} {p : Pr} (hn : c.ns.length < 1073741824) (h : OS c p = true) : ((0 <= p.a /\ p.a < c.ns.length) /\ 0 <= p.b /\ p.b < c.ns.length) /\ (nA c p).mi < (nB c p).mi := by
 unfold OS at h
 cases hq : uT c.ns.length p with
 | false => rw [hq] at h; cases h
 | true =>
  rw [hq] at h
  have h : (bif (!(p.a == p.b && p.b == p.a)) then decide ((nA c p).mi < (nB c p).mi) else false) = true := h
  unfold uT wr Fw at hq
  rw [PE (by omega) (by omega)] at hq
  simp only [Bool.and_eq_true, decide_eq_true_eq] at hq
  refine ⟨⟨by omega, by omega⟩, ?_⟩
  cases hb : (!(p.a == p.b && p.b == p.a)) with
  | false => rw [hb] at h; cases h
  | true => rw [hb] at h; exact of_decide_eq_true h
theorem AYJ {x : Prv} : ∀ {m k : Nat}, k <= m -> pvK x m = true -> pvK x k = true
 | 0, k, h, hm => by
  obtain rfl : k = 0 := by omega
  rfl
 | m + 1, k, h, hm => by
  by_cases hk : k = m + 1
  ·subst hk; exact hm
  ·have h2 : (pvK x m && XN x.c (gD x.l m) && !hitJ (mtF x m) (Mh x m).toNat (pvB x m - Mh x m).toNat) = true := hm
   rw [Bool.and_eq_true, Bool.and_eq_true] at h2
   exact AYJ (by omega) h2.1.1
theorem BXJ {f : Nat -> Bool} {a : Nat} : ∀ {m k : Nat}, k <= m -> hitJ f a k = true -> hitJ f a m = true
 | 0, k, h, hm => by
  obtain rfl : k = 0 := by omega
  exact hm
 | m + 1, k, h, hm => by
  by_cases hk : k = m + 1
  ·subst hk; exact hm
  ·show (hitJ f a m || f (a + m)) = true
   rw [BXJ (show k <= m by omega) hm]; rfl
theorem BQR {x : Prv} (h1 : ¬(x.l.length : Int) > 40) (h2 : (x.l.all λ p => OS x.c p) = true) {k : Nat} (hk : k < x.l.length) (h3 : pvK x (k + 1) = false) : (Fl x).1 = false /\ (Fl x).2 = 0 := by
 have h : pvK x x.l.length = false := by
  cases hq : pvK x x.l.length with
  | false => rfl
  | true => rw [AYJ (show k + 1 <= x.l.length from hk) hq] at h3; cases h3
 unfold Fl; rw [decide_eq_false h1, h2, h]; exact ⟨rfl, rfl⟩
theorem CAW (x : Prv) (h1 : x.c.ms.length < 4611686018427387904 /\ x.c.ns.length < 4611686018427387904 /\ x.l.length < 4611686018427387904) (h0 : BF x.c = 0) : BUT x := by
 have hl := QE h0
 have hs := fD h0
 have hM := BPM hs.1
 rw [CCQ]; delta nL nX ANH AOV AYM ANN AOO AOT BBA BAF ASX AFN AFS AQX AVB Ng AFY ADW ATM AEN ARN nY AQF oD ATY nP AUP ASJ Xo AGC AGD ADT AUL AUS AFG AUX AEP nT Wz nE Xi mC AEA AQN AFB ASW ARP AUM AGF ARV AGA AQP ATC ARH AFL AVE AFV Dw ASG AEW AFE ATX AEY ATK AEH AEL APU ATT ATG ADS ASB AET AUE APX AVA AEE AQL ADV Dx AQZ ARX Dt mV nQ nO nR lY nN AEG Xd Xe AEC Xh ASY Xc Xf ATQ Xm Xn lW tE AKO Ny Nr Pe Pb Nx uB Nk AJW AMW AHJ Nb Hw AMS qP aJ AKY AMH AHX ALE AIM AKS AKI Oy qK ALU AJO AJS AJD AHW AJC ALI ALG ALO AIF ZL pZ oM tM qW tP pX tL pM pN AKN AIO; simp only [CC, eq_self, implies_true, forall_const, EB, zJ, Ts, BAJ, A7, BOU]
 refine ⟨⟨⟨h1.1, h1.2.1⟩, h0⟩, λ hc => ?_, λ hc => ⟨⟨h1.2.2, by omega⟩, λ ha => ?_, λ ha => ⟨rfl, ⟨0, ⟨rfl, λ _ _ => rfl⟩, Nat.zero_le _, rfl⟩, ?_⟩⟩⟩
 ·unfold Fl; rw [decide_eq_true hc]; exact ⟨rfl, rfl⟩
 ·unfold Fl; rw [decide_eq_false hc, ha]; exact ⟨rfl, rfl⟩
 ·rintro k ⟨hk, hp⟩
  have hP : ∀ k, k < x.l.length -> _ := λ k hk => AXJ (by omega) (List.all_eq_true.1 ha _ (HP hk))
  have mA : ∀ k, k < x.l.length -> 0 <= Mh x k /\ Mh x k < x.c.ms.length := λ k hk => hM _ (by have := (hP k hk).1; omega)
  have mB : ∀ k, k < x.l.length -> 0 <= pvB x k /\ pvB x k < x.c.ms.length := λ k hk => hM _ (by have := (hP k hk).1; omega)
  have mL : ∀ k, k < x.l.length -> Mh x k < pvB x k := λ k hk => (hP k hk).2
  have eB : ∀ k, (gD x.c.ns (gD x.l k).b.toNat).mi = pvB x k := λ _ => rfl
  have eA : ∀ k, (gD x.c.ns (gD x.l k).a.toNat).mi = Mh x k := λ _ => rfl
  refine ⟨λ hlt => ⟨⟨by omega, by omega⟩, ⟨(hP k (by omega)).1, ⟨hl.2.1.2, hl.2.2⟩, hM⟩, λ hL => ?_, λ hL => ⟨(hP k (by omega)).1.1, ⟨⟨k, 0⟩, ⟨by rw [eA]; show Mh x k + ((0 : Nat) : Int) = _; omega, rfl, λ i hi => ?_, rfl, rfl⟩, ⟨by show k < _; omega, rfl⟩, ⟨hp, hL⟩, by have := mL k (by omega); show Mh x k + ((0 : Nat) : Int) <= pvB x k; omega, rfl⟩, ?_⟩⟩, λ hge => ?_⟩
  ·refine BQR hc ha (k := k) (by omega) ?_
   show (pvK x k && XN x.c (gD x.l k) && _) = false
   rw [hL]; simp
  ·show (mtF x k i || (decide (Mh x k <= i) && decide ((i : Int) < Mh x k + ((0 : Nat) : Int)))) = mtF x k i
   rw [show (decide (Mh x k <= i) && decide ((i : Int) < Mh x k + ((0 : Nat) : Int))) = false by simp, Bool.or_false]
  ·rintro ⟨i, j⟩ ⟨⟨y1, y2⟩, ⟨y3, y4⟩, y5, y6⟩
   dsimp only at y1 y2 y3 y4 y5 y6 ⊢
   simp only [eB]
   have a1 := mA i y1
   have b1 := mB i y1
   have l1 := mL i y1
   have e : (Mh x i + (j : Int)).toNat = (Mh x i).toNat + j := by omega
   have eG : mtG x i j ((Mh x i).toNat + j) = mtF x i ((Mh x i).toNat + j) := by
    show (mtF x i _ || (decide (Mh x i <= _) && decide (_ < Mh x i + (j : Int)))) = _
    rw [decide_eq_false (show ¬(((Mh x i).toNat + j : Nat) : Int) < Mh x i + (j : Int) by omega), Bool.and_false, Bool.or_false]
   refine ⟨(hP i y1).1.2, λ hb => ⟨⟨⟨by omega, by omega⟩, by omega⟩, λ hm => ?_, λ hm => ⟨⟨⟨by omega, by omega⟩, by omega⟩, ⟨i, j + 1⟩, ⟨?_, rfl, λ t ht => ?_, rfl, rfl⟩, ⟨⟨y1, y2⟩, ⟨y3, y4⟩, by show Mh x i + ((j + 1 : Nat) : Int) <= pvB x i; omega, ?_⟩, by show 50 - (j + 1) < _; omega⟩⟩, λ hb => ⟨i + 1, ⟨by rw [PE (by omega) (by omega)]; rfl, λ t ht => ?_⟩, ⟨by omega, ?_⟩, by omega⟩⟩
   ·rw [e, eG] at hm
    refine BQR hc ha (k := i) y1 ?_
    have h9 : hitJ (mtF x i) (Mh x i).toNat (j + 1) = true := by
     show (hitJ _ _ _ || _) = true
     rw [hm, Bool.or_true]
    show (pvK x i && XN x.c (gD x.l i) && !hitJ _ _ _) = false
    rw [BXJ (show j + 1 <= (pvB x i - Mh x i).toNat by omega) h9]; simp
   ·show Mh x i + ((j + 1 : Nat) : Int) = _
    rw [PE (by omega) (by omega)]; omega
   ·show (mtF x i t || (decide (Mh x i <= t) && decide ((t : Int) < Mh x i + ((j + 1 : Nat) : Int)))) = bif _ then true else (mtF x i t || (decide (Mh x i <= t) && decide ((t : Int) < Mh x i + (j : Int))))
    rw [e]
    by_cases h7 : t = (Mh x i).toNat + j
    ·rw [decide_eq_true h7, decide_eq_true (show Mh x i <= t by omega), decide_eq_true (show (t : Int) < Mh x i + ((j + 1 : Nat) : Int) by omega)]; simp
    ·rw [decide_eq_false h7]
     show _ = (mtF x i t || _)
     congr 2
     exact decide_eq_decide.2 (by omega)
   ·rw [e, eG] at hm
    show (hitJ _ _ _ || _) = false
    rw [y6, hm]; rfl
   ·have e3 : Mh x i + (j : Int) = pvB x i := by omega
    show (mtF x i t || _) = (mtF x i t || (decide (Mh x i <= t) && decide ((t : Int) < Mh x i + (j : Int))))
    rw [e3]
   ·have e3 : (pvB x i - Mh x i).toNat = j := by omega
    show (pvK x i && XN x.c (gD x.l i) && !hitJ _ _ _) = true
    rw [e3, y3, y4, y6]; rfl
  ·have e : k = x.l.length := by omega
   subst e
   unfold Fl; rw [decide_eq_false hc, ha, hp]; exact ⟨by simp, rfl⟩
theorem CDB : AR Try.prog mH (C_prov.spec dPrv) := okT C_prov (λ (x : Prv) h => by
 have h1 : x.c.ms.length < 4611686018427387904 /\ x.c.ns.length < 4611686018427387904 /\ x.l.length < 4611686018427387904 := h
 by_cases h0 : BF x.c = 0
 ·have e : C_prov.val x = .tup [.bool (Fl x).1, .int (Fl x).2] := by
   show AVal.tup [.bool (QY x).1, .int (QY x).2] = _
   unfold QY; rw [h0]; rfl
  rw [e]
  exact Su (A := BOA x) (L := []) (keep := []) (ren := []) (fz := []) ADU (by kernel_rfl) (AC eS (AC CFC (AC ANG AL))) (CAW x h1 h0)
 ·have h0' : (BF x.c == 0) = false := by simpa using h0
  have e : C_prov.val x = .tup [.bool false, .int (BF x.c)] := by
   show AVal.tup [.bool (QY x).1, .int (QY x).2] = _
   unfold QY; rw [h0']; rfl
  rw [e]
  refine Su (A := BGF) (L := []) (keep := []) (ren := []) (fz := []) ADU (by kernel_rfl) (AC oE AL) ?_
  show BII x; rw [BLJ]<;> delta MF Sw BU CO FM FQ FP CL AK CA DD AU BW FX IV HC HA HZ ID IA JD GN FW FY Sb Ea WW JY LH uZ AI BG DV EN GF AN BO BK CG BJ BB BY AO AM HS FZ BL ED CS GS CD IW CJ CX DM AZ CR CY DP EU CV DH BA AW DQ GJ EA EI DG BD EJ FU BE EH ER GC HI EF GI DS FH GR JG HR FI FT JU IR GD JH DO BR DF IL IP IS IM JZ CH ME PN BP EX IG NV PK JL XW XZ OY UT TI XM NP Jq; simp only [CC, eq_self, implies_true, forall_const, EB]
  simp [h1, h0]) _
structure CP where
 c : Cht
 p : Pr
def dCP : List AVal -> Heap -> Option (CP × List (Nat × Nat) × List Nat)
 | [x, .d p], H => match AVK x H with
  | some (c, f) => some (⟨c, dPr p⟩, [], f)
  | none => none
 | _, _ => none
def xCP (x : CP) : List AVal := [.d (Rc x.c), .d (ePr x.p)]
def latO (x : CP) : Bool × Int := bif OS x.c x.p then (XN x.c x.p, 0) else (false, 2)
def latV (x : CP) : Bool × Int := bif BF x.c == 0 then latO x else (false, BF x.c)
def C_Late : Ctr := { α := CP, xs := xCP, val := λ x => .tup [.bool (latV x).1, .int (latV x).2], keep := λ _ => [], pre := λ x => [x.c.ms.length < 4611686018427387904 /\ x.c.ns.length < 4611686018427387904] }
def BWE : Ann := ann 25 [(VE, C_open.spec dC1), (BBW, C_pair.spec dDkP), (BAG, C_late.spec dDkP)]
def BZI (x : CP) : Prop := DN Try.prog BWE AYY (AP AYY) (xCP x) (AH []) (.tup [.bool (latO x).1, .int (latO x).2]) [] [] []
abbrev Mm:=CP.c
abbrev vK:=CP.p
abbrev IQ a:=ES (Mm a)
abbrev jJ a:=CV (Mm a)
attribute [go_sem] Mm vK IQ jJ
theorem CCH (x : CP) : (BZI x) = (AI (NP (Mm x) (Mm x) (Mm x) (Mm x) (DK (IG (Mm x)))) (BQ (AM (Pr.a (vK x))) (AM (Pr.b (vK x))) (BA (IQ x)) (AN (AZ (IQ x)) (BE (IQ x)) (BD (IQ x)) (AW (IQ x)) (Ez (BR (IQ x)) (λ i=>CH i (IQ x)) (DF (IQ x)) (λ i=>BP i (IQ x)) Cm (EV (IQ x)) (λ i=>jF (jJ x) i) (AO (BI (λ i=>FG (IQ x) i (Dp (jJ x) i))) (BA (IQ x)) (AZ (IQ x)) (BE (IQ x)) (BD (IQ x)) (AW (IQ x)) (DA (IQ x)) (HO (IQ x)) (DJ (DB (IQ x)) (λ i=>CQ i (IQ x)) RM BC (EQ (IQ x)) (KF (jJ x)) (BI (λ i=>FF (Dp (jJ x) i) (IQ x) i)) (RH (EJ (IQ x))) FO))))) (TI (not (Qi (CV (IQ x)) (vK x))) (HF (Ft (latO x))) (AU (iM (latO x)) 2) (AI (YA (AM (Pr.a (vK x))) (AM (Pr.b (vK x))) (IQ x) (IQ x) (IQ x) (IQ x) (IQ x) (BR (IQ x)) (QU (λ i=>CH i (IQ x)) (IQ x) (λ i=>BP i (IQ x)) RM BC (EV (IQ x)) (KF (jJ x)) (λ i=>FG (IQ x) i (Dp (jJ x) i)) (MJ (IQ x) (QR (λ i=>CQ i (IQ x)) RM BC (EQ (IQ x)) (KF (jJ x)) (λ i=>FF (Dp (jJ x) i) (IQ x) i) (WE (Pr.a (vK x)) (EJ (IQ x)) (DI (Pr.b (vK x))) (Pr.b (vK x))) (Ab (PA (IQ x)) (EJ (IQ x)) 20) (AK (λ i=>UH i (EJ (IQ x)) (HI (IQ x) i) (CY (IQ x)))))))) (MF (Ft (latO x)) (ACK (CV (IQ x)) (vK x))) (DK (iM (latO x)))))) := by kernel_rfl
def BRL : Ann := ann 25 [(VE, C_openX.spec dC1)]
def BRI (x : CP) : Prop := DN Try.prog BRL AYY (AP AYY) (xCP x) (AH []) (.tup [.bool false, .int (BF x.c)]) [] [] []
theorem BWQ (x : CP) : (BRI x) = (JL (NP (Mm x) (Mm x) (Mm x) (Mm x) (OY (IG (Mm x)))) (Jq (Mm x)) (ED Sw) (XZ (Mm x) (IG (Mm x))) JY) := by kernel_rfl
theorem BFI : AR Try.prog BNW (C_Late.spec dCP) := okT C_Late (λ (x : CP) h => by
 have h1 : x.c.ms.length < 4611686018427387904 /\ x.c.ns.length < 4611686018427387904 := h
 by_cases h0 : BF x.c = 0
 ·have hl := QE h0
  have hs := fD h0
  have hM := BPM hs.1
  have e : C_Late.val x = .tup [.bool (latO x).1, .int (latO x).2] := by
   show AVal.tup [.bool (latV x).1, .int (latV x).2] = _
   unfold latV; rw [h0]; rfl
  rw [e]
  refine Su (A := BWE) (L := []) (keep := []) (ren := []) (fz := []) BPK (by kernel_rfl) (AC eS (AC BOW (AC ANG AL))) ?_
  show BZI x; rw [CCH]<;> delta MF Sw BU CO FM FQ FP CL AK CA DD AU BW GM FX KZ KB IV HC HA HZ ID IA JD GN FW FY FO Ea PY BI NH AQ OE Ft iM Qi ACK Mm vK AI BG AY DV EN GF AN BO BK CG BJ BB BY AO AM HS FZ BL ED NK CS GS CD IW CJ CX DM AZ CR CY Dp DP EU CV DH BA AW Fs DQ GJ EA EI ES HY DG BD EJ FU BE EH ER OZ FR OO DI HM GC HI EF GI DS IQ BC XD FH LB HQ GR JG HR FI LC Ab FT JU TL JX IR KM Ac GD NL JH VO BQ Mw WV DK DO LR HB BR DF IL IP IS IM JZ CH OC ME RC RB Cm WQ DB DA MM NO PN JK QK BP MB HF WG jF JJ KF FV HN YC EV XS DJ FF IG NV CQ FG EQ PA Br WE RM HO XW UH RH UT TI MJ XM NP jJ YA QU QR Ez; simp only [CC, eq_self, implies_true, forall_const, EB, zJ, Ts, BAJ, A7, BOU]
  refine ⟨⟨h1, h0⟩, ⟨by omega, λ hp => ?_, λ hp => ⟨⟨(AXJ (by omega) hp).1, ⟨hl.2.1.2, hl.2.2⟩, hM⟩, ?_⟩⟩⟩
  ·unfold latO; rw [hp]; exact ⟨rfl, rfl⟩
  ·unfold latO; rw [hp]; exact ⟨rfl, rfl⟩
 ·have h0' : (BF x.c == 0) = false := by simpa using h0
  have e : C_Late.val x = .tup [.bool false, .int (BF x.c)] := by
   show AVal.tup [.bool (latV x).1, .int (latV x).2] = _
   unfold latV; rw [h0']; rfl
  rw [e]
  refine Su (A := BRL) (L := []) (keep := []) (ren := []) (fz := []) BPK (by kernel_rfl) (AC oE AL) ?_
  show BRI x; rw [BWQ]<;> delta MF Sw BU CO FM FQ FP CL AK CA DD AU FX IV HC HA HZ ID IA JD GN FW FY Ea WW JY Mm AI BG DV EN GF AN BO BK CG BJ BB BY AO AM HS FZ BL ED CS GS CD IW CJ CX DM AZ CR CY DP EU CV DH BA AW DQ GJ EA EI DG BD EJ FU BE EH ER GC HI EF GI DS FH GR JG HR FI FT JU IR GD JH DO BR DF IL IP IS IM JZ CH ME PN BP EX IG NV PK JL XW XZ OY UT XM NP Jq; simp only [CC, eq_self, implies_true, forall_const, EB]
  simp [h1, h0]) _
end Go.Bal
