/- Package chart: the fewest stops. -/
import Derived.Test.YtdbjalgfomknhaaChJ
import Derived.Test.YtdbjalgfomknhaaChS
set_option linter.unusedVariables false
set_option linter.unusedSimpArgs false
namespace Go.Bal
open Go Go.Sym Go.Proofs
def idL (n : Nat) : List Int := AE n λ i => (i : Int)
def AR (c : Cht) : List Int := stM (GK c) (idL c.ns.length)
structure FwS where
 la : Int
 q : List Int
 r : List Pr
 deriving Inhabited
def miA (c : Cht) (a : Int) : Int := (gD c.ns a.toNat).mi
def fwP (c : Cht) (la b a : Int) : Bool := bif decide (miA c a > la) then KT c ⟨a, b⟩ else false
def fwN (c : Cht) (s : FwS) (b : Int) : Option Int -> FwS
 | none => s
 | some a => ⟨wr (miA c b - 1), s.q ++ [wr (miA c b - 1)], s.r ++ [⟨a, b⟩]⟩
def BY (c : Cht) : Nat -> FwS
 | 0 => ⟨-1, [], []⟩
 | k + 1 => fwN c (BY c k) (gD (AR c) k) (((AR c).take k).find? (fwP c (BY c k).la (gD (AR c) k)))
def Dg (c : Cht) : FwS := BY c c.ns.length
def fwW (c : Cht) : Dk := aD ⟨AG c, (Dg c).q⟩
structure FwR where
 q : List Int
 r : List Pr
 e : Int
def nilI : List Int := []
def nilP : List Pr := []
def tY (c : Cht) : FwR := bif (AU (fwW c)).2 then ⟨(Dg c).q, (Dg c).r, 0⟩ else ⟨nilI, nilP, 6⟩
def DA (c : Cht) : FwR := bif AJ c == 0 then tY c else ⟨nilI, nilP, AJ c⟩
def C_few : Ctr := { α := Cht, xs := λ c => [.d (YV c)], val := λ c => .tup [.d (CO (DA c).q), .d (ZA (DA c).r), .int (DA c).e], keep := λ _ => [], pre := λ c => [(c.ms.length < 4611686018427387904 /\ c.ns.length < 4611686018427387904) /\ (AJ c = 0 -> c.ns.length <= 12)] }
def fwH (c : Cht) : List (Nat × HCell) := [(201, .live (chB c)), (203, .live (dkB (AG c) 204)), (204, .live (dkM (AG c)))]
def fw6S (c : Cht) (k : Nat) : List (Nat × AVal) := [(1, .bptr 201 0), (5, .bptr 203 0), (29, .int c.ns.length), (30, .int k)]
def fwR : List (Nat × Nat) := [(201, 1000), (203, 2016), (204, 2017)]
def fw6n (c : Cht) : Shape := { α := One, dflt := default, T := λ _ => ⟨(7, .d FG) :: fw6S c 0, fwH c⟩, inv := λ _ => True, meas := λ _ => 60, first := fwR }
def fw6o (c : Cht) : Shape := { α := Nat, dflt := 0, T := λ k => ⟨(7, .own 202 1 0 k) :: fw6S c k, fwH c ++ [(202, .live (.row 1 k λ i => FF i))]⟩, inv := λ k => 1 <= k /\ k <= c.ns.length, meas := λ k => 50 - k, again := [(202, 9048)] }
def fwB (c : Cht) : List (Nat × AVal) := [(1, .bptr 201 0), (5, .bptr 203 0), (7, .d (CO (AR c)))]
def fw11 (c : Cht) (z : List Nat) : Shape := { α := One, dflt := default, T := λ _ => ⟨fwB c, fwH c⟩, inv := λ _ => True, meas := λ _ => 0, ffz := z }
def fwT (c : Cht) (k : Nat) : List (Nat × AVal) := fwB c ++ [(11, .int (BY c k).la), (41, .d (CO (AR c))), (42, .int c.ns.length), (43, .int k)]
def fwY (c : Cht) (k : Nat) : List (Nat × HCell) := fwH c ++ [(301, .live (.row 1 (BY c k).q.length λ i => FF (gD (BY c k).q i))), (302, .live (.row 2 (BY c k).r.length λ i => ePr (gD (BY c k).r i)))]
def CAZ : List (Nat × AVal) := [(9, .d FG), (10, .d FG)]
def CKA (c : Cht) (k : Nat) : List (Nat × AVal) := [(9, .own 301 1 0 (BY c k).q.length), (10, .own 302 2 0 (BY c k).r.length)]
def CXU (c : Cht) : Shape := { α := Nat, dflt := 0, T := λ k => ⟨CAZ ++ fwT c k, fwH c⟩, inv := λ k => k <= c.ns.length /\ (BY c k).q = [], meas := λ k => c.ns.length - k, tag := [0] }
def CYX (c : Cht) : Shape := { α := Nat, dflt := 0, T := λ k => ⟨CKA c k ++ fwT c k, fwY c k⟩, inv := λ k => k <= c.ns.length /\ 1 <= (BY c k).q.length, meas := λ k => c.ns.length - k, tag := [1] }
def fwJ (c : Cht) (k j : Nat) : List (Nat × AVal) := [(13, .int (gD (AR c) k)), (50, .d (CO ((AR c).take k))), (51, .int k), (52, .int j)]
def CWU (c : Cht) (m : Nat) : Shape := { α := IJ, dflt := default, T := λ s => ⟨fwJ c s.i s.j ++ (CAZ ++ fwT c s.i), fwH c⟩, inv := λ s => (s.i < c.ns.length /\ c.ns.length - s.i = m /\ s.j <= s.i /\ ∀ t, t < s.j -> fwP c (BY c s.i).la (gD (AR c) s.i) (gD (AR c) t) = false) /\ (BY c s.i).q = [], meas := λ s => c.ns.length - s.j }
def CYY (c : Cht) (m : Nat) : Shape := { α := IJ, dflt := default, T := λ s => ⟨fwJ c s.i s.j ++ (CKA c s.i ++ fwT c s.i), fwY c s.i⟩, inv := λ s => (s.i < c.ns.length /\ c.ns.length - s.i = m /\ s.j <= s.i /\ ∀ t, t < s.j -> fwP c (BY c s.i).la (gD (AR c) s.i) (gD (AR c) t) = false) /\ 1 <= (BY c s.i).q.length, meas := λ s => c.ns.length - s.j }
def fwT2 (c : Cht) (k : Nat) : List (Nat × AVal) := fwB c ++ [(11, .int (BY c (k + 1)).la), (41, .d (CO (AR c))), (42, .int c.ns.length), (43, .int k)]
def CXY (c : Cht) (m : Nat) : Shape := { α := Nat, dflt := 0, T := λ k => ⟨CAZ ++ fwT2 c k, fwH c⟩, inv := λ k => k < c.ns.length /\ c.ns.length - k = m /\ (BY c (k + 1)).q = [], meas := λ _ => 0 }
def CIM (c : Cht) (m : Nat) (f : List (Nat × Nat)) : Shape := { α := Nat, dflt := 0, T := λ k => ⟨CKA c (k + 1) ++ fwT2 c k, fwY c (k + 1)⟩, inv := λ k => k < c.ns.length /\ c.ns.length - k = m /\ 1 <= (BY c (k + 1)).q.length, meas := λ _ => 0, first := f }
def fw26 (c : Cht) (z : List Nat) : Shape := { α := One, dflt := default, T := λ _ => ⟨[(5, .bptr 203 0), (9, .d (CO (Dg c).q)), (10, .d (ZA (Dg c).r))], [(203, .live (dkB (AG c) 204)), (204, .live (dkM (AG c)))]⟩, inv := λ _ => True, meas := λ _ => 0, ffz := z }
def fw10 (c : Cht) : Shape := { α := One, dflt := default, T := λ _ => ⟨[(1, .bptr 201 0), (5, .bptr 203 0), (7, .own 202 1 0 c.ns.length)], fwH c ++ [(202, .live (.row 1 c.ns.length λ i => FF i))]⟩, inv := λ _ => 1 <= c.ns.length, meas := λ _ => 0 }
def CTA (c : Cht) : Ann := { ann 101 [(GH, C_open.spec dC1), (uL, C_sort.spec dGLt), (BKC, C_late.spec dDkP), (BGM, C_stop.spec dDkZ), (uM, C_times.spec dDk1)] with mt := λ id => id == 8 || id == 23, loops := λ id => if id = 6 then some [fw6n c, fw6o c] else if id = 15 then some [CXU c, CYX c] else none, inner := λ gs id => if id = 18 then (if gs.getD 1 0 = 0 then some [CWU c (gs.getD 0 0)] else some [CYY c (gs.getD 0 0)]) else none, cut := λ id => if id = 10 then some [fw10 c] else if id = 11 then some [fw11 c [202]] else if id = 26 then some [fw26 c [], fw26 c [301, 302]] else none, cutIn := λ gs id => if id = 25 then (if gs.getD 1 0 = 0 then some [CXY c (gs.getD 0 0), CIM c (gs.getD 0 0) [(301, 24048), (302, 24112)]] else some [CIM c (gs.getD 0 0) [(301, 24048), (302, 24112)], CIM c (gs.getD 0 0) []]) else none }
def CTD (c : Cht) : Prop := AW Try.prog (CTA c) SC (AK SC) [.d (YV c)] (AF []) (.tup [.d (CO (tY c).q), .d (ZA (tY c).r), .int (tY c).e]) [] [] []
abbrev APM (c : Cht) : List Mk := AE c.ms.length λ (i : Nat) => gD c.ms i
abbrev I9 (c : Cht) : Nat := (APM c).length
abbrev BQU (c : Cht) : Prop := I9 c = c.ms.length
abbrev BRN (c : Cht) (i : Nat) : Mk := gD (APM c) i
abbrev BKP (c : Cht) (i : Nat) : Int := (BRN c i).pl
abbrev BNJ (c : Cht) (i : Nat) : Int := (BRN c i).ht
abbrev BMM (c : Cht) : Prop := ∀ (i : Nat), i < I9 c -> BKP c i = (gD c.ms i).pl /\ BNJ c i = (gD c.ms i).ht
abbrev ANR (c : Cht) : List Nt := AE c.ns.length λ (i : Nat) => gD c.ns i
abbrev Ys (c : Cht) : Nat := (ANR c).length
abbrev BKF (c : Cht) : Prop := Ys c = c.ns.length
abbrev uX (c : Cht) (i : Nat) : Nt := gD (ANR c) i
abbrev BBI (c : Cht) (i : Nat) : Int := (uX c i).mi
abbrev AVN (c : Cht) (i : Nat) : Span := (uX c i).t
abbrev AZR (c : Cht) (i : Nat) : Int := (AVN c i).lo
abbrev AYE (c : Cht) (i : Nat) : Int := (AVN c i).hi
abbrev BCH (c : Cht) (i : Nat) : Span := (uX c i).s
abbrev AWW (c : Cht) (i : Nat) : Int := (BCH c i).lo
abbrev AWQ (c : Cht) (i : Nat) : Int := (BCH c i).hi
abbrev AXT (c : Cht) : Prop := ∀ (i : Nat), i < Ys c -> BBI c i = (gD c.ns i).mi /\ AZR c i = (gD c.ns i).t.lo /\ AYE c i = (gD c.ns i).t.hi /\ AWW c i = (gD c.ns i).s.lo /\ AWQ c i = (gD
 c.ns i).s.hi
abbrev uG (c : Cht) : Cht := Cht.mk c.p c.base c.scale c.off (APM c) (ANR c)
abbrev BC : Prop := (0 : Nat) = (0 : Nat)
abbrev GE : Prop := ∀ (i : Nat), i < (0 : Nat) -> false = false
abbrev EG (c : Cht) : Prop := (↑c.ns.length : Int) = (↑c.ns.length : Int)
abbrev GG (c : Cht) : Prop := c.ms.length = c.ms.length
abbrev GF (c : Cht) : Prop := ∀ (i : Nat), i < c.ms.length -> (gD c.ms i).pl = (gD c.ms i).pl /\ (gD c.ms i).ht = (gD c.ms i).ht
abbrev GI (c : Cht) : Prop := c.ns.length = c.ns.length
abbrev GD (c : Cht) : Prop := ∀ (i : Nat), i < c.ns.length -> (gD c.ns i).mi = (gD c.ns i).mi /\ (gD c.ns i).t.lo = (gD c.ns i).t.lo /\ (gD c.ns i).t.hi = (gD c.ns i).t.hi /\ (gD c.ns i).s.lo = (gD c.ns i).s.lo /\ (gD
 c.ns i).s.hi = (gD c.ns i).s.hi
abbrev BBY (c : Cht) : Dk := AG (uG c)
abbrev SQ (c : Cht) : Cht := (BBY c).c
abbrev AUX (c : Cht) : Span := (SQ c).p
abbrev BIH (c : Cht) : List Mk := (SQ c).ms
abbrev L4 (i : Nat) (c : Cht) : Prop := i < (AG c).c.ms.length
abbrev BHP (c : Cht) (i : Nat) : Mk := gD (BIH c) i
abbrev Uz (c : Cht) : List Nt := (SQ c).ns
abbrev wA (i : Nat) (c : Cht) : Prop := i < (AG c).c.ns.length
abbrev yD (c : Cht) (i : Nat) : Nt := gD (Uz c) i
abbrev Al (c : Cht) (i : Nat) : Int := (gD (AG c).c.ns i).t.lo
abbrev BFG (c : Cht) (i : Nat) : Span := (yD c i).t
abbrev Cr (c : Cht) (i : Nat) : Int := (gD (AG c).c.ns i).t.hi
abbrev Ck (c : Cht) (i : Nat) : Int := (gD (AG c).c.ns i).s.lo
abbrev ASU (c : Cht) (i : Nat) : Span := (yD c i).s
abbrev Bu (c : Cht) (i : Nat) : Int := (gD (AG c).c.ns i).s.hi
abbrev DY : Prop := ∀ (i : Nat), i < (40 : Nat) -> false = false
abbrev yN (c : Cht) (n : Int) : Nt := ntOf (Uz c) n
abbrev BDS (c : Cht) (n : Int) : Span := (yN c n).t
abbrev AWL (c : Cht) (n : Int) : Span := (yN c n).s
abbrev ATI : Prop := (0 : Nat) < (0 : Nat)
abbrev BIA : Prop := (1 : Nat) <= (1 : Nat)
abbrev Ky : Prop := (0 : Nat) < (1 : Nat)
abbrev uO : Prop := (1 : Nat) = (1 : Nat)
abbrev xM : Prop := BIA /\ (Ky -> uO)
abbrev ATP : Prop := true = true -> Ky
abbrev AVW : Prop := (1 : Nat) <= (9223372036854775807 : Nat)
abbrev AVD : Prop := (True /\ (ATI -> (0 : Nat) = (1 : Nat))) /\ xM /\ ATP /\ AVW /\ (8 : Nat) <= (140737488355328 : Nat)
abbrev EH (c : Cht) : Prop := (AG c).c.p.lo = (AG c).c.p.lo
abbrev EE (c : Cht) : Prop := (AG c).c.p.hi = (AG c).c.p.hi
abbrev ET (c : Cht) : Prop := (AG c).c.base = (AG c).c.base
abbrev EU (c : Cht) : Prop := (AG c).c.scale = (AG c).c.scale
abbrev EM (c : Cht) : Prop := (AG c).c.off = (AG c).c.off
abbrev HH (c : Cht) : Prop := (AG c).c.ms.length = (AG c).c.ms.length
abbrev HW (c : Cht) : Prop := ∀ (i : Nat), L4 i c -> (gD (AG c).c.ms i).pl = (gD (AG c).c.ms i).pl /\ (gD (AG c).c.ms i).ht = (gD (AG c).c.ms i).ht
abbrev HP (c : Cht) : Prop := (AG c).c.ns.length = (AG c).c.ns.length
abbrev GW (c : Cht) : Prop := ∀ (i : Nat), wA i c -> (gD (AG c).c.ns i).mi = (gD (AG c).c.ns i).mi /\ Al c i = Al c i /\ Cr c i = Cr c i /\ Ck c i = Ck c i /\ Bu c i =
 Bu c i
abbrev GZ (c : Cht) : Prop := ∀ (n : Int), hasN (AG c).c.ns n = hasN (AG c).c.ns n
abbrev DF (c : Cht) : Prop := ∀ (n : Int), (AG c).st n = (AG c).st n
abbrev HG (c : Cht) : Prop := ∀ (n : Int), (ntOf (AG c).c.ns n).mi = (ntOf (AG c).c.ns n).mi /\ (ntOf (AG c).c.ns n).t.lo = (ntOf (AG c).c.ns n).t.lo /\ (ntOf (AG c).c.ns n).t.hi = (ntOf (AG c).c.ns
 n).t.hi /\ (ntOf (AG c).c.ns n).s.lo = (ntOf (AG c).c.ns n).s.lo /\ (ntOf (AG c).c.ns n).s.hi = (ntOf (AG c).c.ns n).s.hi
abbrev H5 (a : Nat) (c : Cht) : Prop := (1 : Nat) <= a /\ a <= c.ns.length
abbrev wQ (a : Nat) : Nat := (50 : Nat) - a
abbrev wZ (a : Nat) (c : Cht) : Bool := decide ((↑a : Int) < (↑c.ns.length : Int))
abbrev wN : Prop := false = true -> Ky
abbrev Wi (a : Nat) : Nat := a + (1 : Nat)
abbrev ASR (a : Nat) (a1 : Nat) : Prop := a = Wi a1
abbrev K9 (a : Nat) (a1 : Nat) : Prop := (↑a : Int) = IntKind.i64.wrap ((↑a1 : Int) + (1 : Int))
abbrev ATU (c : Cht) : Prop := Nat.le (1 : Nat) c.ns.length
abbrev K5 (c : Cht) : List Int := AE c.ns.length λ (i : Nat) => (↑i : Int)
abbrev Da (c : Cht) : Nat := (K5 c).length
abbrev ASH (c : Cht) : Prop := Da c = c.ns.length
abbrev ATZ (i : Nat) (c : Cht) : Prop := i < Da c
abbrev zN (c : Cht) (i : Nat) : Int := gD (K5 c) i
abbrev yA (j : Nat) : Nat := (0 : Nat) + j
abbrev uF (c : Cht) : Prop := EH c /\ EE c /\ ET c /\ EU c /\ EM c /\ HH c /\ HW c /\ HP c /\ GW c /\ DY /\ AT = AT /\ GZ c /\ DF c /\ HG c
abbrev TT (c : Cht) : Prop := c.p.lo = c.p.lo /\ c.p.hi = c.p.hi /\ c.base = c.base /\ c.scale = c.scale /\ c.off = c.off /\ GG c /\ GF c /\ GI c /\ GD c /\ uF c
abbrev BO (c : Cht) : Prop := (AR c).length = (AR c).length
abbrev BP (c : Cht) : Prop := ∀ (i : Nat), i < (AR c).length -> gD (AR c) i = gD (AR c) i
abbrev vK (a : Nat) (c : Cht) : Prop := a <= c.ns.length /\ (BY c a).q = []
abbrev ARL (a : Nat) : Prop := (0 : Int) <= (↑a : Int)
abbrev BFR (a : Nat) (c : Cht) : Prop := ARL a /\ (↑a : Int) < (↑(AR c).length : Int)
abbrev AQX (a : Nat) (c : Cht) : Prop := (0 : Int) <= (0 : Int) /\ ARL a /\ (↑a : Int) <= (↑(AR c).length : Int)
abbrev ASD (c : Cht) (a : IJ) (a1 : Nat) : Prop := gD (AR c) a.i = gD (AR c) a1
abbrev ASW (a : Nat) : Nat := a - Int.toNat (0 : Int)
abbrev BGV (a : IJ) (c : Cht) (a1 : Nat) : Prop := (List.take a.i (AR c)).length = ASW a1
abbrev AUQ (i : Nat) (a : IJ) (c : Cht) : Prop := i < (List.take a.i (AR c)).length
abbrev yW (a : IJ) (c : Cht) (i : Nat) : Int := gD (List.take a.i (AR c)) i
abbrev AXG (a : IJ) (c : Cht) : Prop := ∀ (i : Nat), AUQ i a c -> yW a c i = gD (AR c) (Int.toNat (0 : Int) + i)
abbrev BBF (a : IJ) (a1 : Nat) : Prop := (↑a.i : Int) = (↑(ASW a1) : Int)
abbrev BGA (a : IJ) : Prop := (↑a.j : Int) = (0 : Int)
abbrev BCP (c : Cht) (a : IJ) (a1 : Nat) : Prop := (BY c a.i).la = (BY c a1).la
abbrev BEA (a : IJ) (a1 : Nat) : Prop := (↑a.i : Int) = (↑a1 : Int)
abbrev ZB (c : Cht) (a : Nat) : Nat := c.ns.length - a
abbrev AUG (a : IJ) (c : Cht) (a1 : Nat) : Prop := a.i < c.ns.length /\ c.ns.length - a.i = ZB c a1 /\ a.j <= a.i /\ ∀ (t : Nat), t < a.j -> fwP c (BY c a.i).la (gD (AR c) a.i) (gD (AR c) t) = false
abbrev Yj (a : IJ) (c : Cht) (a1 : Nat) : Prop := AUG a c a1 /\ (BY c a.i).q = []
abbrev AFW (a : IJ) : Bool := decide ((↑a.j : Int) < (↑a.i : Int))
abbrev AJD (a : IJ) (c : Cht) : Prop := (0 : Int) <= (↑a.j : Int) /\ (↑a.j : Int) < (↑(List.take a.i (AR c)).length : Int)
abbrev JW (a : IJ) (c : Cht) : Int := gD (List.take a.i (AR c)) a.j
abbrev U3 (c : Cht) (a : IJ) : Bool := decide ((gD c.ns (JW a c).toNat).mi > (BY c a.i).la)
abbrev Zm (a : IJ) (c : Cht) : Pr := dPr (DVal.agg [FF (JW a c), DVal.v (Value.int IntKind.i64 (gD (AR c) a.i))])
abbrev eF (a : IJ) (c : Cht) : Int := (Zm a c).a
abbrev dX (a : IJ) (c : Cht) : Int := (Zm a c).b
abbrev eK (c : Cht) : List Mk := AE (AG c).c.ms.length λ (i : Nat) => gD (AG c).c.ms i
abbrev QY (c : Cht) : Nat := (eK c).length
abbrev AHS (c : Cht) : Prop := QY c = (AG c).c.ms.length
abbrev AIW (c : Cht) (i : Nat) : Mk := gD (eK c) i
abbrev AGQ (c : Cht) (i : Nat) : Int := (AIW c i).pl
abbrev Z1 (c : Cht) (i : Nat) : Int := (AIW c i).ht
abbrev ALK (c : Cht) : Prop := ∀ (i : Nat), i < QY c -> AGQ c i = (gD (AG c).c.ms i).pl /\ Z1 c i = (gD (AG c).c.ms i).ht
abbrev QG (c : Cht) : List Nt := AE (AG c).c.ns.length λ (i : Nat) => gD (AG c).c.ns i
abbrev LF (c : Cht) : Nat := (QG c).length
abbrev AHD (c : Cht) : Prop := LF c = (AG c).c.ns.length
abbrev V2 (i : Nat) (c : Cht) : Prop := i < LF c
abbrev gE (c : Cht) (i : Nat) : Nt := gD (QG c) i
abbrev Bs (c : Cht) (i : Nat) : Int := (gE c i).mi
abbrev AIO (c : Cht) (i : Nat) : Span := (gE c i).t
abbrev R9 (c : Cht) (i : Nat) : Int := (AIO c i).lo
abbrev ALQ (c : Cht) (i : Nat) : Int := (AIO c i).hi
abbrev AHP (c : Cht) (i : Nat) : Span := (gE c i).s
abbrev ALF (c : Cht) (i : Nat) : Int := (AHP c i).lo
abbrev AEN (c : Cht) (i : Nat) : Int := (AHP c i).hi
abbrev AEP (c : Cht) : Prop := ∀ (i : Nat), V2 i c -> Bs c i = (gD (AG c).c.ns i).mi /\ R9 c i = Al c i /\ ALQ c i = Cr c i /\ ALF c i = Ck c i /\ AEN c i =
 Bu c i
abbrev ALI (c : Cht) (n : Int) : Bool := hasN (QG c) n
abbrev R4 (c : Cht) : Prop := ∀ (n : Int), ALI c n = hasN (AG c).c.ns n
abbrev dD (c : Cht) (n : Int) : Nt := ntOf (QG c) n
abbrev M8 (c : Cht) (n : Int) : Int := (dD c n).mi
abbrev Q0 (c : Cht) (n : Int) : Span := (dD c n).t
abbrev T6 (c : Cht) (n : Int) : Int := (Q0 c n).lo
abbrev Y9 (c : Cht) (n : Int) : Int := (Q0 c n).hi
abbrev V8 (c : Cht) (n : Int) : Span := (dD c n).s
abbrev AKX (c : Cht) (n : Int) : Int := (V8 c n).lo
abbrev AEQ (c : Cht) (n : Int) : Int := (V8 c n).hi
abbrev S8 (c : Cht) : Prop := ∀ (n : Int), M8 c n = (ntOf (AG c).c.ns n).mi /\ T6 c n = (ntOf (AG c).c.ns n).t.lo /\ Y9 c n = (ntOf (AG c).c.ns n).t.hi /\ AKX c n = (ntOf (AG
 c).c.ns n).s.lo /\ AEQ c n = (ntOf (AG c).c.ns n).s.hi
abbrev ACE (c : Cht) : Prop := QY c <= (40 : Nat)
abbrev Z0 (a : IJ) (c : Cht) : Prop := ((0 : Int) <= JW a c /\ JW a c < (↑c.ns.length : Int)) /\ (U3 c a = true -> eF a c = JW a c /\ dX a c = gD (AR c) a.i /\ EH c /\
 EE c /\ ET c /\ EU c /\ EM c /\ AHS c /\ ALK c /\ AHD c /\ AEP c /\ DY /\ AT = AT /\ R4 c /\ DF c /\ S8 c /\ EH c /\ EE c /\ ET c /\ EU
 c /\ EM c /\ (AG c).c.ms.length = QY c /\ (∀ (i : Nat), L4 i c -> (gD (AG c).c.ms i).pl = AGQ c i /\ (gD (AG c).c.ms i).ht = Z1 c i) /\ (AG c).c.ns.length = LF c /\ (∀ (i : Nat),
 wA i c -> (gD (AG c).c.ns i).mi = Bs c i /\ Al c i = R9 c i /\ Cr c i = ALQ c i /\ Ck c i = ALF c i /\ Bu c i = AEN c i) /\ DY /\ AT = AT /\ (∀ (n : Int),
 hasN (AG c).c.ns n = ALI c n) /\ DF c /\ (∀ (n : Int), (ntOf (AG c).c.ns n).mi = M8 c n /\ (ntOf (AG c).c.ns n).t.lo = T6 c n /\ (ntOf (AG c).c.ns n).t.hi = Y9 c n /\ (ntOf (AG
 c).c.ns n).s.lo = AKX c n /\ (ntOf (AG c).c.ns n).s.hi = AEQ c n) /\ (((0 : Int) <= eF a c /\ eF a c < (↑(LF c) : Int)) /\ (0 : Int) <= dX a c /\ dX a c < (↑(LF c) : Int))
 /\ (ACE c /\ LF c <= (20 : Nat)) /\ ∀ (i : Nat), V2 i c -> (0 : Int) <= Bs c i /\ Bs c i < (↑(QY c) : Int))
abbrev AEJ (c : Cht) : Cht := Cht.mk (AG c).c.p (AG c).c.base (AG c).c.scale (AG c).c.off (eK c) (QG c)
abbrev AIF (c : Cht) (a : IJ) : Bool := bif U3 c a then KT (AEJ c) (Zm a c) else false
abbrev T2 (c : Cht) (a : IJ) : Prop := (0 : Int) <= gD (AR c) a.i /\ gD (AR c) a.i < (↑c.ns.length : Int)
abbrev Q6 : Prop := (2 : Nat) = (2 : Nat)
abbrev S9 : Prop := BIA /\ (Ky -> Q6)
abbrev fE (c : Cht) (a : Nat) : FwS := BY c (Wi a)
abbrev Yw (c : Cht) (a : Nat) : List Int := (fE c a).q
abbrev LP (c : Cht) (a : Nat) : Nat := (Yw c a).length
abbrev AID (c : Cht) (a : Nat) : Prop := LP c a = (1 : Nat)
abbrev ADI (c : Cht) (a : Nat) : List Pr := (fE c a).r
abbrev QO (c : Cht) (a : Nat) : Nat := (ADI c a).length
abbrev Z5 (c : Cht) (a : Nat) : Prop := QO c a = (1 : Nat)
abbrev fG (c : Cht) (a : Nat) : Int := (fE c a).la
abbrev dH (c : Cht) (a : IJ) : Int := IntKind.i64.wrap ((gD c.ns (gD (AR c) a.i).toNat).mi - (1 : Int))
abbrev U6 (c : Cht) (a : Nat) (a1 : IJ) : Prop := fG c a = dH c a1
abbrev Cn (a : Nat) (a1 : IJ) : Prop := (↑a : Int) = (↑a1.i : Int)
abbrev fF (i : Nat) (c : Cht) (a : Nat) : Prop := i < LP c a
abbrev Dy (c : Cht) (a : Nat) (i : Nat) : Int := gD (Yw c a) i
abbrev gK (i : Nat) (c : Cht) (a : Nat) : Prop := i < QO c a
abbrev U5 (c : Cht) (a : Nat) (i : Nat) : Pr := gD (ADI c a) i
abbrev Bp (c : Cht) (a : Nat) (i : Nat) : Int := (U5 c a i).a
abbrev Cf (c : Cht) (a : Nat) (i : Nat) : Int := (U5 c a i).b
abbrev AAX (c : Cht) (a : Nat) (a1 : Nat) : Prop := ZB c a = ZB c a1
abbrev Bf (a : Nat) (c : Cht) (a1 : Nat) : Prop := a < c.ns.length /\ AAX c a a1 /\ (1 : Nat) <= LP c a
abbrev AED (c : Cht) (a : IJ) (a1 : IJ) : Prop := gD (AR c) a.i = gD (AR c) a1.i
abbrev AIX (a : IJ) (c : Cht) (a1 : IJ) : Prop := (List.take a.i (AR c)).length = (List.take a1.i (AR c)).length
abbrev ALA (a : IJ) (c : Cht) (a1 : IJ) : Prop := ∀ (i : Nat), AUQ i a c -> yW a c i = yW a1 c i
abbrev YY (a : IJ) (a1 : IJ) : Prop := (↑a.i : Int) = (↑a1.i : Int)
abbrev M0 (a : IJ) (a1 : IJ) : Prop := (↑a.j : Int) = IntKind.i64.wrap ((↑a1.j : Int) + (1 : Int))
abbrev ALE (c : Cht) (a : IJ) (a1 : IJ) : Prop := (BY c a.i).la = (BY c a1.i).la
abbrev ALP (c : Cht) (a : IJ) : Nat := c.ns.length - a.j
abbrev AER (c : Cht) (a : IJ) (a1 : IJ) : Prop := ALP c a < ALP c a1
abbrev AJY (c : Cht) (a : Nat) (a1 : IJ) : Prop := fG c a = (BY c a1.i).la
abbrev N4 (a : Nat) (c : Cht) (a1 : Nat) : Prop := a < c.ns.length /\ AAX c a a1 /\ Yw c a = []
abbrev AEF (c : Cht) (a : Nat) (a1 : Nat) : Prop := (BY c a).la = fG c a1
abbrev O3 (c : Cht) (a : Nat) (a1 : Nat) : Prop := ZB c a < ZB c a1
abbrev AKG (c : Cht) (a : Nat) (a1 : Nat) : Prop := (BY c a).q.length = LP c a1
abbrev O1 (c : Cht) (a : Nat) (a1 : Nat) : Prop := (BY c a).r.length = QO c a1
abbrev W3 (a : Nat) (c : Cht) : Prop := a <= c.ns.length /\ (1 : Nat) <= (BY c a).q.length
abbrev Zg (c : Cht) (a : Nat) : Prop := ∀ (a_1 : Nat), Bf a_1 c a -> ∃ (a_3 : Nat), (BC /\ AKG c a_3 a_1 /\ BC /\ O1 c a_3 a_1 /\ BO c /\ BP c /\ AEF c a_3 a_1 /\ BO
 c /\ BP c /\ EG c /\ K9 a_3 a_1 /\ c.p.lo = c.p.lo /\ c.p.hi = c.p.hi /\ c.base = c.base /\ c.scale = c.scale /\ c.off = c.off /\ GG c /\ GF c /\ GI c /\ GD c /\ EH c /\ EE c /\
 ET c /\ EU c /\ EM c /\ HH c /\ HW c /\ HP c /\ GW c /\ DY /\ AT = AT /\ GZ c /\ DF c /\ HG c /\ AKG c a_3 a_1 /\ (∀ (i : Nat), i < (BY c a_3).q.length -> gD
 (BY c a_3).q i = Dy c a_1 i) /\ O1 c a_3 a_1 /\ ∀ (i : Nat), i < (BY c a_3).r.length -> (gD (BY c a_3).r i).a = Bp c a_1 i /\ (gD (BY c a_3).r i).b = Cf c a_1 i) /\ W3 a_3 c /\ O3
 c a_3 a
abbrev R5 (c : Cht) : Prop := (Dg c).q.length = (0 : Nat)
abbrev S1 (c : Cht) : Prop := (Dg c).r.length = (0 : Nat)
abbrev AHM (c : Cht) (a : IJ) (a1 : Nat) : Prop := (BY c a.i).q.length = (BY c a1).q.length
abbrev AAM (c : Cht) (a : IJ) (a1 : Nat) : Prop := (BY c a.i).r.length = (BY c a1).r.length
abbrev bF (i : Nat) (c : Cht) (a : IJ) : Prop := i < (BY c a.i).q.length
abbrev dJ (i : Nat) (c : Cht) (a : IJ) : Prop := i < (BY c a.i).r.length
abbrev QQ (c : Cht) (a : IJ) (i : Nat) : Int := (gD (BY c a.i).r i).a
abbrev QK (c : Cht) (a : IJ) (i : Nat) : Int := (gD (BY c a.i).r i).b
abbrev eZ (a : IJ) (c : Cht) (a1 : Nat) : Prop := AUG a c a1 /\ (1 : Nat) <= (BY c a.i).q.length
abbrev Yg (c : Cht) (a : IJ) : Nat := (BY c a.i).q.length + (1 : Nat)
abbrev aA (c : Cht) (a : IJ) : Nat := (BY c a.i).r.length + (1 : Nat)
abbrev AFD (c : Cht) (a : Nat) (a1 : IJ) : Prop := LP c a = Yg c a1
abbrev R7 (c : Cht) (a : Nat) (a1 : IJ) : Prop := QO c a = aA c a1
abbrev AFN (i : Nat) (c : Cht) (a : IJ) : Bool := decide (dJ i c a)
abbrev AIM (c : Cht) (a : IJ) (a1 : IJ) : Prop := (BY c a.i).q.length = (BY c a1.i).q.length
abbrev AGS (c : Cht) (a : IJ) (a1 : IJ) : Prop := (BY c a.i).r.length = (BY c a1.i).r.length
abbrev S3 (c : Cht) (a : Nat) (a1 : IJ) : Prop := LP c a = (BY c a1.i).q.length
abbrev AFF (c : Cht) (a : Nat) (a1 : IJ) : Prop := QO c a = (BY c a1.i).r.length
abbrev M7 (c : Cht) (a : Nat) (j : Nat) : Pr := gD (BY c a).r (yA j)
abbrev eC (c : Cht) : List Int := AE (Dg c).q.length λ (i : Nat) => gD (Dg c).q i
abbrev bA (c : Cht) : Nat := (eC c).length
abbrev ZD (c : Cht) : Dk := aD (DkZ.mk (Dk.mk (AEJ c) (AG c).st (AG c).sp) (eC c))
abbrev LI (c : Cht) : Cht := (ZD c).c
abbrev Dc (c : Cht) : List Nt := (LI c).ns
abbrev eL (c : Cht) (n : Int) : Nt := ntOf (Dc c) n
abbrev Y5 (c : Cht) (n : Int) : Span := (eL c n).t
abbrev O5 (c : Cht) (n : Int) : Span := (eL c n).s
abbrev fR (c : Cht) : Span := (LI c).p
abbrev ACW (c : Cht) : Int := (fR c).lo
abbrev O0 (c : Cht) : Prop := ACW c = ACW c
abbrev AEY (c : Cht) : Int := (fR c).hi
abbrev ACH (c : Cht) : Prop := AEY c = AEY c
abbrev aH (c : Cht) : Int := (LI c).base
abbrev AKC (c : Cht) : Prop := aH c = aH c
abbrev fU (c : Cht) : Int := (LI c).scale
abbrev AAC (c : Cht) : Prop := fU c = fU c
abbrev cE (c : Cht) : Int := (LI c).off
abbrev AFY (c : Cht) : Prop := cE c = cE c
abbrev AII (c : Cht) : List Mk := (LI c).ms
abbrev Aa (c : Cht) : Nat := (AII c).length
abbrev bZ (c : Cht) (i : Nat) : Mk := gD (AII c) i
abbrev aE (c : Cht) : List Mk := AE (Aa c) λ (i : Nat) => bZ c i
abbrev LT (c : Cht) : Nat := (aE c).length
abbrev ADQ (c : Cht) (i : Nat) : Mk := gD (aE c) i
abbrev ADJ (c : Cht) (i : Nat) : Int := (ADQ c i).pl
abbrev ABW (c : Cht) (i : Nat) : Int := (bZ c i).pl
abbrev N0 (c : Cht) (i : Nat) : Int := (ADQ c i).ht
abbrev AJL (c : Cht) (i : Nat) : Int := (bZ c i).ht
abbrev Cj (c : Cht) : Nat := (Dc c).length
abbrev ZY (c : Cht) (i : Nat) : Nt := gD (Dc c) i
abbrev PT (c : Cht) : List Nt := AE (Cj c) λ (i : Nat) => ZY c i
abbrev fL (c : Cht) : Nat := (PT c).length
abbrev Zy (c : Cht) (i : Nat) : Nt := gD (PT c) i
abbrev X6 (c : Cht) (i : Nat) : Int := (Zy c i).mi
abbrev AJC (c : Cht) (i : Nat) : Int := (ZY c i).mi
abbrev AAT (c : Cht) (i : Nat) : Span := (Zy c i).t
abbrev AGR (c : Cht) (i : Nat) : Int := (AAT c i).lo
abbrev AHK (c : Cht) (i : Nat) : Span := (ZY c i).t
abbrev AGT (c : Cht) (i : Nat) : Int := (AHK c i).lo
abbrev AAU (c : Cht) (i : Nat) : Int := (AAT c i).hi
abbrev U1 (c : Cht) (i : Nat) : Int := (AHK c i).hi
abbrev AIY (c : Cht) (i : Nat) : Span := (Zy c i).s
abbrev ACT (c : Cht) (i : Nat) : Int := (AIY c i).lo
abbrev AIK (c : Cht) (i : Nat) : Span := (ZY c i).s
abbrev AJX (c : Cht) (i : Nat) : Int := (AIK c i).lo
abbrev AJB (c : Cht) (i : Nat) : Int := (AIY c i).hi
abbrev AEV (c : Cht) (i : Nat) : Int := (AIK c i).hi
abbrev AMB (c : Cht) (i : Nat) : Bool := (ZD c).sp i
abbrev AHO (c : Cht) : Prop := ∀ (i : Nat), i < (40 : Nat) -> AMB c i = AMB c i
abbrev eM (c : Cht) (n : Int) : Bool := hasN (PT c) n
abbrev Yu (c : Cht) (n : Int) : Nt := ntOf (PT c) n
abbrev Y6 (c : Cht) (n : Int) : Int := (Yu c n).mi
abbrev ACQ (c : Cht) (n : Int) : Span := (Yu c n).t
abbrev AEG (c : Cht) (n : Int) : Int := (ACQ c n).lo
abbrev ADR (c : Cht) (n : Int) : Int := (ACQ c n).hi
abbrev AHN (c : Cht) (n : Int) : Span := (Yu c n).s
abbrev N5 (c : Cht) (n : Int) : Int := (AHN c n).lo
abbrev ACI (c : Cht) (n : Int) : Int := (AHN c n).hi
abbrev AAN (c : Cht) : Prop := (tY c).q.length = (0 : Nat)
abbrev ACZ (c : Cht) : Prop := (tY c).r.length = (0 : Nat)
abbrev ADG (c : Cht) : Prop := ∀ (a : One), True -> (bA c = (Dg c).q.length /\ (∀ (i : Nat), i < bA c -> gD (eC c) i = gD (Dg c).q i) /\ EH c /\ EE c /\ ET c /\ EU c /\
 EM c /\ AHS c /\ ALK c /\ AHD c /\ AEP c /\ DY /\ AT = AT /\ R4 c /\ DF c /\ S8 c /\ AT = AT /\ (∀ (n : Int), hasN (AG c).c.ns n = hasN (Dc c) n) /\ (∀ (n : Int),
 (AG c).st n = (ZD c).st n) /\ (∀ (n : Int), (ntOf (AG c).c.ns n).mi = (eL c n).mi /\ (ntOf (AG c).c.ns n).t.lo = (Y5 c n).lo /\ (ntOf (AG c).c.ns n).t.hi = (Y5 c n).hi /\ (ntOf (AG
 c).c.ns n).s.lo = (O5 c n).lo /\ (ntOf (AG c).c.ns n).s.hi = (O5 c n).hi) /\ bA c < (4611686018427387904 : Nat) /\ ACE c) /\ (O0 c /\ ACH c /\ AKC c /\ AAC c /\ AFY c /\
 LT c = Aa c /\ (∀ (i : Nat), i < LT c -> ADJ c i = ABW c i /\ N0 c i = AJL c i) /\ fL c = Cj c /\ (∀ (i : Nat), i < fL c -> X6 c i = AJC c i /\
 AGR c i = AGT c i /\ AAU c i = U1 c i /\ ACT c i = AJX c i /\ AJB c i = AEV c i) /\ AHO c /\ AT = AT /\ (∀ (n : Int), eM c n = hasN (AG c).c.ns n) /\ DF c
 /\ (∀ (n : Int), Y6 c n = (ntOf (AG c).c.ns n).mi /\ AEG c n = (ntOf (AG c).c.ns n).t.lo /\ ADR c n = (ntOf (AG c).c.ns n).t.hi /\ N5 c n = (ntOf (AG c).c.ns n).s.lo /\ ACI c n = (ntOf
 (AG c).c.ns n).s.hi) /\ O0 c /\ ACH c /\ AKC c /\ AAC c /\ AFY c /\ Aa c = LT c /\ (∀ (i : Nat), i < Aa c -> ABW c i = ADJ c i /\ AJL c i = N0 c i) /\
 Cj c = fL c /\ (∀ (i : Nat), i < Cj c -> AJC c i = X6 c i /\ AGT c i = AGR c i /\ U1 c i = AAU c i /\ AJX c i = ACT c i /\ AEV c i = AJB c i) /\
 AHO c /\ AT = AT /\ (∀ (n : Int), hasN (AG c).c.ns n = eM c n) /\ DF c /\ (∀ (n : Int), (ntOf (AG c).c.ns n).mi = Y6 c n /\ (ntOf (AG c).c.ns n).t.lo = AEG c n /\ (ntOf (AG c).c.ns
 n).t.hi = ADR c n /\ (ntOf (AG c).c.ns n).s.lo = N5 c n /\ (ntOf (AG c).c.ns n).s.hi = ACI c n) /\ (1 : Nat) <= LT c /\ LT c <= (40 : Nat) /\ ∀ (j : Int), eM c j = true -> (0 : Int) <=
 j /\ j < (↑(LT c) : Int)) /\ bif !(AU (Dk.mk (Cht.mk (fR c) (aH c) (fU c) (cE c) (aE c) (PT c)) (AG c).st (ZD c).sp)).snd then AAN c /\ AAN c /\
 ACZ c /\ ACZ c /\ (tY c).e = (6 : Int) else (tY c).q.length = (Dg c).q.length /\ (∀ (i : Nat), i < (tY c).q.length -> gD (tY c).q i = gD (Dg c).q i) /\ (tY c).r.length = (Dg c).r.length /\ (∀ (i : Nat), i <
 (tY c).r.length -> (gD (tY c).r i).a = (gD (Dg c).r i).a /\ (gD (tY c).r i).b = (gD (Dg c).r i).b) /\ (tY c).e = (0 : Int)
theorem CUN (c : Cht) : (CTD c) = ((c.p.lo = c.p.lo /\ c.p.hi = c.p.hi /\ c.base = c.base /\ c.scale = c.scale /\ c.off = c.off /\ BQU c /\ BMM c /\ BKF c /\ AXT c /\ (I9 c < (4611686018427387904 : Nat)
 /\ Ys c < (4611686018427387904 : Nat)) /\ AJ (uG c) = (0 : Int)) /\ ((∃ (a : One), (BC /\ GE /\ EG c /\ Int.ofNat (0 : Nat) = Int.ofNat (0 : Nat) /\ c.p.lo = c.p.lo /\ c.p.hi = c.p.hi /\ c.base =
 c.base /\ c.scale = c.scale /\ c.off = c.off /\ GG c /\ GF c /\ GI c /\ GD c /\ (AG c).c.p.lo = (AUX c).lo /\ (AG c).c.p.hi = (AUX c).hi /\ (AG c).c.base = (SQ c).base /\ (AG
 c).c.scale = (SQ c).scale /\ (AG c).c.off = (SQ c).off /\ (AG c).c.ms.length = (BIH c).length /\ (∀ (i : Nat), L4 i c -> (gD (AG c).c.ms i).pl = (BHP c i).pl /\ (gD (AG c).c.ms i).ht =
 (BHP c i).ht) /\ (AG c).c.ns.length = (Uz c).length /\ (∀ (i : Nat), wA i c -> (gD (AG c).c.ns i).mi = (yD c i).mi /\ Al c i = (BFG c i).lo /\ Cr c i = (BFG c i).hi /\ Ck
 c i = (ASU c i).lo /\ Bu c i = (ASU c i).hi) /\ DY /\ AT = AT /\ (∀ (n : Int), hasN (AG c).c.ns n = hasN (Uz c) n) /\ (∀ (n : Int), (AG c).st n = (BBY c).st n) /\ ∀ (n : Int), (ntOf (AG
 c).c.ns n).mi = (yN c n).mi /\ (ntOf (AG c).c.ns n).t.lo = (BDS c n).lo /\ (ntOf (AG c).c.ns n).t.hi = (BDS c n).hi /\ (ntOf (AG c).c.ns n).s.lo = (AWL c n).lo /\ (ntOf (AG c).c.ns n).s.hi =
 (AWL c n).hi) /\ True) /\ (∀ (a : One), True -> bif decide ((↑(0 : Nat) : Int) < (↑c.ns.length : Int)) then AVD /\ ∃ (a : Nat), (BC /\ a = (1 : Nat) /\ EG c /\ (↑a : Int) = IntKind.i64.wrap ((↑(0 : Nat) :
 Int) + (1 : Int)) /\ c.p.lo = c.p.lo /\ c.p.hi = c.p.hi /\ c.base = c.base /\ c.scale = c.scale /\ c.off = c.off /\ GG c /\ GF c /\ GI c /\ GD c /\ EH c /\ EE c /\ ET c /\ EU c /\
 EM c /\ HH c /\ HW c /\ HP c /\ GW c /\ DY /\ AT = AT /\ GZ c /\ DF c /\ HG c /\ a = (1 : Nat) /\ ∀ (i : Nat), i < a -> (↑i : Int) = (↑(0 : Nat) : Int)) /\ H5 a c /\
 wQ a < (60 : Nat) else False) /\ ∀ (a : Nat), H5 a c -> bif wZ a c then ((a = a /\ ((0 : Nat) < a -> uO)) /\ xM /\ wN /\ Wi a <= (9223372036854775807 : Nat) /\ Wi a * (8 : Nat) <=
 (140737488355328 : Nat)) /\ ∃ (a_2 : Nat), (BC /\ ASR a_2 a /\ EG c /\ K9 a_2 a /\ c.p.lo = c.p.lo /\ c.p.hi = c.p.hi /\ c.base = c.base /\ c.scale = c.scale /\ c.off = c.off /\ GG c /\ GF c /\
 GI c /\ GD c /\ EH c /\ EE c /\ ET c /\ EU c /\ EM c /\ HH c /\ HW c /\ HP c /\ GW c /\ DY /\ AT = AT /\ GZ c /\ DF c /\ HG c /\ ASR a_2 a
 /\ ∀ (i : Nat), i < a_2 -> (↑i : Int) = bif decide (i < a) then (↑i : Int) else (↑a : Int)) /\ H5 a_2 c /\ wQ a_2 < wQ a else ∃ (a_2 : One), (BC /\ c.ns.length = a /\ c.p.lo = c.p.lo /\ c.p.hi = c.p.hi /\
 c.base = c.base /\ c.scale = c.scale /\ c.off = c.off /\ GG c /\ GF c /\ GI c /\ GD c /\ EH c /\ EE c /\ ET c /\ EU c /\ EM c /\ HH c /\ HW c /\ HP c /\ GW c
 /\ DY /\ AT = AT /\ GZ c /\ DF c /\ HG c /\ c.ns.length = a /\ ∀ (i : Nat), i < c.ns.length -> (↑i : Int) = (↑i : Int)) /\ ATU c) /\ ∀ (a : One), ATU c -> ((BC /\ ASH c /\ ASH c /\
 (∀ (i : Nat), ATZ i c -> zN c i = (↑i : Int)) /\ c.p.lo = c.p.lo /\ c.p.hi = c.p.hi /\ c.base = c.base /\ c.scale = c.scale /\ c.off = c.off /\ BQU c /\ BMM c /\ BKF c /\ AXT c /\ c.p.lo = c.p.lo /\
 c.p.hi = c.p.hi /\ c.base = c.base /\ c.scale = c.scale /\ c.off = c.off /\ c.ms.length = I9 c /\ (∀ (i : Nat), i < c.ms.length -> (gD c.ms i).pl = BKP c i /\ (gD c.ms i).ht = BNJ c i) /\ c.ns.length = Ys c /\
 (∀ (i : Nat), i < c.ns.length -> (gD c.ns i).mi = BBI c i /\ (gD c.ns i).t.lo = AZR c i /\ (gD c.ns i).t.hi = AYE c i /\ (gD c.ns i).s.lo = AWW c i /\ (gD c.ns i).s.hi = AWQ c i) /\ Da c <= (12 :
 Nat) /\ Da c < (1073741824 : Nat) /\ ∀ (i : Nat), ATZ i c -> (0 : Int) <= zN c i /\ zN c i < (↑(Ys c) : Int)) /\ ∃ (a : One), ((AR c).length = c.ns.length /\ (0 : Nat) + c.ns.length <= Da c /\
 (∀ (j : Nat), j < (AR c).length -> gD (AR c) j = gD (stM (GK (uG c)) (K5 c)) (yA j)) /\ TT c) /\ True) /\ ∀ (a : One), True -> ((∃ (a : Nat), (BC /\ GE /\ BC /\ GE /\ BO
 c /\ BP c /\ (BY c a).la = (-1 : Int) /\ BO c /\ BP c /\ (↑c.ns.length : Int) = (↑(AR c).length : Int) /\ (↑a : Int) = (0 : Int) /\ TT c) /\ vK a c) /\ (∀ (a : Nat), vK a c -> bif wZ a
 c then (BFR a c /\ AQX a c /\ (∃ (a_2 : IJ), (ASD c a_2 a /\ BGV a_2 c a /\ AXG a_2 c /\ BBF a_2 a /\ BGA a_2 /\ BC /\ GE /\ BC /\ GE /\ BO c /\ BP c /\ BCP
 c a_2 a /\ BO c /\ BP c /\ EG c /\ BEA a_2 a /\ TT c) /\ Yj a_2 c a) /\ ∀ (a_2 : IJ), Yj a_2 c a -> bif AFW a_2 then AJD a_2 c /\ Z0 a_2 c /\ bif AIF c a_2 then
 T2 c a_2 /\ (AVD /\ (True /\ (ATI -> (0 : Nat) = (2 : Nat))) /\ S9 /\ ATP /\ AVW /\ (16 : Nat) <= (140737488355328 : Nat)) /\ ∃ (a_4 : Nat), (BC /\ AID c a_4 /\ BC /\ Z5 c
 a_4 /\ BO c /\ BP c /\ U6 c a_4 a_2 /\ BO c /\ BP c /\ EG c /\ Cn a_4 a_2 /\ c.p.lo = c.p.lo /\ c.p.hi = c.p.hi /\ c.base = c.base /\ c.scale = c.scale /\ c.off = c.off /\ GG c /\
 GF c /\ GI c /\ GD c /\ EH c /\ EE c /\ ET c /\ EU c /\ EM c /\ HH c /\ HW c /\ HP c /\ GW c /\ DY /\ AT = AT /\ GZ c /\ DF c /\ HG c /\
 AID c a_4 /\ (∀ (i : Nat), fF i c a_4 -> Dy c a_4 i = dH c a_2) /\ Z5 c a_4 /\ ∀ (i : Nat), gK i c a_4 -> Bp c a_4 i = JW a_2 c /\ Cf c a_4 i = gD (AR c) a_2.i) /\
 Bf a_4 c a else ∃ (a_4 : IJ), (AED c a_4 a_2 /\ AIX a_4 c a_2 /\ ALA a_4 c a_2 /\ YY a_4 a_2 /\ M0 a_4 a_2 /\ BC /\ GE /\ BC /\ GE /\ BO c /\ BP c /\
 ALE c a_4 a_2 /\ BO c /\ BP c /\ EG c /\ YY a_4 a_2 /\ TT c) /\ Yj a_4 c a /\ AER c a_4 a_2 else ∃ (a_4 : Nat), (BC /\ GE /\ BC /\ GE /\ BO c /\
 BP c /\ AJY c a_4 a_2 /\ BO c /\ BP c /\ EG c /\ Cn a_4 a_2 /\ TT c) /\ N4 a_4 c a) /\ (∀ (a_2 : Nat), N4 a_2 c a -> ∃ (a_4 : Nat), (BC /\ GE /\ BC /\
 GE /\ BO c /\ BP c /\ AEF c a_4 a_2 /\ BO c /\ BP c /\ EG c /\ K9 a_4 a_2 /\ TT c) /\ vK a_4 c /\ O3 c a_4 a) /\ Zg c a else ∃ (a : One), (R5 c /\
 R5 c /\ S1 c /\ S1 c /\ uF c) /\ True) /\ ∀ (a : Nat), W3 a c -> bif wZ a c then (BFR a c /\ AQX a c /\ (∃ (a_2 : IJ), (ASD c a_2 a /\ BGV a_2 c a /\ AXG a_2 c /\
 BBF a_2 a /\ BGA a_2 /\ BC /\ AHM c a_2 a /\ BC /\ AAM c a_2 a /\ BO c /\ BP c /\ BCP c a_2 a /\ BO c /\ BP c /\ EG c /\ BEA a_2 a /\ c.p.lo = c.p.lo /\ c.p.hi
 = c.p.hi /\ c.base = c.base /\ c.scale = c.scale /\ c.off = c.off /\ GG c /\ GF c /\ GI c /\ GD c /\ EH c /\ EE c /\ ET c /\ EU c /\ EM c /\ HH c /\ HW c /\ HP c /\
 GW c /\ DY /\ AT = AT /\ GZ c /\ DF c /\ HG c /\ AHM c a_2 a /\ (∀ (i : Nat), bF i c a_2 -> gD (BY c a_2.i).q i = gD (BY c a).q i) /\ AAM c a_2 a /\ ∀ (i : Nat), dJ i c
 a_2 -> QQ c a_2 i = (gD (BY c a).r i).a /\ QK c a_2 i = (gD (BY c a).r i).b) /\ eZ a_2 c a) /\ ∀ (a_2 : IJ), eZ a_2 c a -> bif AFW a_2 then AJD a_2 c /\ Z0 a_2 c /\ bif AIF
 c a_2 then T2 c a_2 /\ ((((BY c a_2.i).q.length = (BY c a_2.i).q.length /\ ((0 : Nat) < (BY c a_2.i).q.length -> uO)) /\ xM /\ wN /\ Yg c a_2 <= (9223372036854775807 : Nat) /\ Yg c a_2 *
 (8 : Nat) <= (140737488355328 : Nat)) /\ ((BY c a_2.i).r.length = (BY c a_2.i).r.length /\ ((0 : Nat) < (BY c a_2.i).r.length -> Q6)) /\ S9 /\ wN /\ aA c a_2 <= (9223372036854775807 : Nat) /\
 aA c a_2 * (16 : Nat) <= (140737488355328 : Nat)) /\ ∃ (a_4 : Nat), (BC /\ AFD c a_4 a_2 /\ BC /\ R7 c a_4 a_2 /\ BO c /\ BP c /\ U6 c a_4 a_2 /\ BO c /\ BP c /\
 EG c /\ Cn a_4 a_2 /\ c.p.lo = c.p.lo /\ c.p.hi = c.p.hi /\ c.base = c.base /\ c.scale = c.scale /\ c.off = c.off /\ GG c /\ GF c /\ GI c /\ GD c /\ EH c /\ EE c /\ ET c /\
 EU c /\ EM c /\ HH c /\ HW c /\ HP c /\ GW c /\ DY /\ AT = AT /\ GZ c /\ DF c /\ HG c /\ AFD c a_4 a_2 /\ (∀ (i : Nat), fF i c a_4 -> Dy c a_4 i = bif
 decide (bF i c a_2) then gD (BY c a_2.i).q i else dH c a_2) /\ R7 c a_4 a_2 /\ ∀ (i : Nat), gK i c a_4 -> (Bp c a_4 i = bif AFN i c a_2 then QQ c a_2 i else JW a_2 c)
 /\ Cf c a_4 i = bif AFN i c a_2 then QK c a_2 i else gD (AR c) a_2.i) /\ Bf a_4 c a else ∃ (a_4 : IJ), (AED c a_4 a_2 /\ AIX a_4 c a_2 /\ ALA a_4 c a_2 /\ YY a_4 a_2 /\
 M0 a_4 a_2 /\ BC /\ AIM c a_4 a_2 /\ BC /\ AGS c a_4 a_2 /\ BO c /\ BP c /\ ALE c a_4 a_2 /\ BO c /\ BP c /\ EG c /\ YY a_4 a_2 /\ c.p.lo = c.p.lo /\ c.p.hi =
 c.p.hi /\ c.base = c.base /\ c.scale = c.scale /\ c.off = c.off /\ GG c /\ GF c /\ GI c /\ GD c /\ EH c /\ EE c /\ ET c /\ EU c /\ EM c /\ HH c /\ HW c /\ HP c /\
 GW c /\ DY /\ AT = AT /\ GZ c /\ DF c /\ HG c /\ AIM c a_4 a_2 /\ (∀ (i : Nat), bF i c a_4 -> gD (BY c a_4.i).q i = gD (BY c a_2.i).q i) /\ AGS c a_4 a_2 /\ ∀ (i : Nat),
 dJ i c a_4 -> QQ c a_4 i = QQ c a_2 i /\ QK c a_4 i = QK c a_2 i) /\ eZ a_4 c a /\ AER c a_4 a_2 else ∃ (a_4 : Nat), (BC /\ S3 c a_4 a_2 /\ BC /\ AFF c
 a_4 a_2 /\ BO c /\ BP c /\ AJY c a_4 a_2 /\ BO c /\ BP c /\ EG c /\ Cn a_4 a_2 /\ c.p.lo = c.p.lo /\ c.p.hi = c.p.hi /\ c.base = c.base /\ c.scale = c.scale /\ c.off = c.off /\ GG c /\
 GF c /\ GI c /\ GD c /\ EH c /\ EE c /\ ET c /\ EU c /\ EM c /\ HH c /\ HW c /\ HP c /\ GW c /\ DY /\ AT = AT /\ GZ c /\ DF c /\ HG c /\
 S3 c a_4 a_2 /\ (∀ (i : Nat), fF i c a_4 -> Dy c a_4 i = gD (BY c a_2.i).q i) /\ AFF c a_4 a_2 /\ ∀ (i : Nat), gK i c a_4 -> Bp c a_4 i = QQ c a_2 i /\ Cf c a_4 i =
 QK c a_2 i) /\ Bf a_4 c a) /\ Zg c a /\ Zg c a else ∃ (a_2 : One), ((Dg c).q.length = (BY c a).q.length /\ (0 : Nat) + (BY c a).q.length <= (BY c a).q.length /\ (∀ (j : Nat), j < (Dg
 c).q.length -> gD (Dg c).q j = gD (BY c a).q (yA j)) /\ (Dg c).r.length = (BY c a).r.length /\ (0 : Nat) + (BY c a).r.length <= (BY c a).r.length /\ (∀ (j : Nat), j < (Dg c).r.length -> (gD (Dg c).r j).a =
 (M7 c a j).a /\ (gD (Dg c).r j).b = (M7 c a j).b) /\ uF c) /\ True) /\ ADG c /\ ADG c) := by kernel_rfl
theorem CQS (a b : Int) : dPr (.agg [FF a, .v (.int .i64 b)]) = ⟨a, b⟩ := rfl
theorem BDY (c : Cht) : Dk.mk c (AG c).st (AG c).sp = AG c := rfl
theorem CRQ {c : Cht} (h : nsIn c) : ∀ i, i < c.ns.length -> 0 <= (gD c.ns i).mi /\ (gD c.ns i).mi < c.ms.length := λ i hi => h _ (List.any_eq_true.2 ⟨_, CS hi, by simp⟩)
theorem CAX (n : Nat) : (idL n).length = n := by unfold idL; simp
theorem BJE (c : Cht) : (AR c).Perm (idL c.ns.length) := Ts _ _
theorem AYP (c : Cht) : (AR c).length = c.ns.length := by rw [(BJE c).length_eq, CAX]
theorem CNI (c : Cht) {i : Nat} (hi : i < c.ns.length) : 0 <= gD (AR c) i /\ gD (AR c) i < c.ns.length := by
 have hm : gD (AR c) i ∈ idL c.ns.length := (BJE c).mem_iff.1 (CS (by rw [AYP]; exact hi))
 obtain ⟨k, hk, e⟩ := IQ hm
 rw [CAX] at hk
 have e2 : gD (idL c.ns.length) k = (k : Int) := BK _ _ _ hk
 rw [<- e, e2]; omega
theorem CRZ {c : Cht} {k : Nat} (hk : k <= c.ns.length) (h : ∀ t, t < k -> fwP c (BY c k).la (gD (AR c) k) (gD (AR c) t) = false) : BY c (k + 1) = BY c k := by
 show fwN c (BY c k) _ (((AR c).take k).find? _) = _
 rw [BKR]
 ·rfl
 ·intro t ht
  have ht : t < k := by rw [List.length_take] at ht; omega
  rw [PQ ht]; exact h t ht
theorem CQA {c : Cht} {k j : Nat} (hk : k <= c.ns.length) (hj : j < k) (h : ∀ t, t < j -> fwP c (BY c k).la (gD (AR c) k) (gD (AR c) t) = false) (h2 : fwP c (BY c k).la (gD (AR c) k) (gD (AR c) j) = true) : BY c (k + 1) = ⟨wr (miA c (gD (AR c) k) - 1), (BY c k).q ++ [wr (miA c (gD (AR c) k) - 1)], (BY c k).r ++ [⟨gD (AR c) j, gD (AR c) k⟩]⟩ := by
 have e : (((AR c).take k).find? (fwP c (BY c k).la (gD (AR c) k))) = some (gD ((AR c).take k) j) := CCN (by rw [List.length_take, AYP]; omega) (λ t ht => by rw [PQ (by omega)]; exact h t ht) (by rw [PQ hj]; exact h2)
 show fwN c (BY c k) _ (((AR c).take k).find? _) = _
 rw [e, PQ hj]; rfl
theorem CIR (c : Cht) : ∀ k, (BY c k).q.length <= k /\ (BY c k).r.length = (BY c k).q.length
 | 0 => ⟨Nat.le_refl _, rfl⟩
 | k + 1 => by
  obtain ⟨h1, h2⟩ := CIR c k
  show (fwN c (BY c k) _ (((AR c).take k).find? _)).q.length <= _ /\ (fwN c (BY c k) _ (((AR c).take k).find? _)).r.length = (fwN c (BY c k) _ (((AR c).take k).find? _)).q.length
  cases ((AR c).take k).find? (fwP c (BY c k).la (gD (AR c) k)) with
  | none => exact ⟨by show (BY c k).q.length <= _; omega, h2⟩
  | some a =>
   refine ⟨?_, ?_⟩
   ·show ((BY c k).q ++ [_]).length <= _
    rw [List.length_append]; simp; omega
   ·show ((BY c k).r ++ [_]).length = ((BY c k).q ++ [_]).length
    rw [List.length_append, List.length_append]; simp; omega
theorem HY {α : Type} [Inhabited α] (l : List α) (x : α) (i : Nat) (h : i < l.length + 1) : gD (l ++ [x]) i = bif decide (i < l.length) then gD l i else x := by
 rw [ABK]
 by_cases h2 : i < l.length
 ·simp [h2]
 ·have : i - l.length = 0 := by omega
  rw [if_neg h2, this, decide_eq_false h2]; rfl
theorem CWM (c : Cht) (h1 : c.ms.length < 4611686018427387904 /\ c.ns.length < 4611686018427387904) (h0 : AJ c = 0) (hn : 1 <= c.ns.length /\ c.ns.length <= 12) : CTD c := by
 have hl := EB h0
 have hs := aF h0
 have hM := CRQ hs.1
 have hO := AYP c
 have hR := λ i (h : i < c.ns.length) => CNI c h
 have hF := CIR c
 rw [CUN]; delta APM I9 BQU BRN BKP BNJ BMM ANR Ys BKF uX BBI AVN AZR AYE BCH AWW AWQ AXT uG BC GE EG GG GF GI GD BBY SQ AUX BIH L4 BHP Uz wA yD Al BFG Cr Ck ASU Bu DY yN BDS AWL ATI BIA Ky uO xM ATP AVW AVD EH EE ET EU EM HH HW HP GW GZ DF HG H5 wQ wZ wN Wi ASR K9 ATU K5 Da ASH ATZ zN yA uF TT BO BP vK ARL BFR AQX ASD ASW BGV AUQ yW AXG BBF BGA BCP BEA ZB AUG Yj AFW AJD JW U3 Zm eF dX eK QY AHS AIW AGQ Z1 ALK QG LF AHD V2 gE Bs AIO R9 ALQ AHP ALF AEN AEP ALI R4 dD M8 Q0 T6 Y9 V8 AKX AEQ S8 ACE Z0 AEJ AIF T2 Q6 S9 fE Yw LP AID ADI QO Z5 fG dH U6 Cn fF Dy gK U5 Bp Cf AAX Bf AED AIX ALA YY M0 ALE ALP AER AJY N4 AEF O3 AKG O1 W3 Zg R5 S1 AHM AAM bF dJ QQ QK eZ Yg aA AFD R7 AFN AIM AGS S3 AFF M7 eC bA ZD LI Dc eL Y5 O5 fR ACW O0 AEY ACH aH AKC fU AAC cE AFY AII Aa bZ aE LT ADQ ADJ ABW N0 AJL Cj ZY PT fL Zy X6 AJC AAT AGR AHK AGT AAU U1 AIY ACT AIK AJX AJB AEV AMB AHO eM Yu Y6 ACQ AEG ADR AHN N5 ACI AAN ACZ ADG; simp only [CC, eq_self, implies_true, forall_const, BH, W2, YR, BWD, BDY, CQS]
 have hI : ∀ i, i < c.ns.length -> gD (AE c.ns.length λ i => (i : Int)) i = (i : Int) := λ i hi => BK _ _ _ hi
 have hT : ∀ k j, j < k -> gD ((AR c).take k) j = gD (AR c) j := λ k j h => PQ h
 have hTl : ∀ k, k <= c.ns.length -> ((AR c).take k).length = k := λ k h => by rw [List.length_take, hO]; omega
 have pre : ∀ x ∈ [0], True := λ _ _ => trivial
 refine ⟨⟨h1, h0⟩, ⟨⟨⟨default, trivial⟩, ?_, ?_⟩, λ _ => ⟨⟨⟨hI, hn.2, by omega, ?_⟩, default, hO, Nat.le_refl _, λ _ _ => rfl⟩, ⟨⟨0, ⟨rfl, by rw [hO], rfl⟩, Nat.zero_le _, rfl⟩, ?_, ?_⟩, ?_⟩⟩⟩
 ·refine ⟨λ _ => ⟨by decide, 1, ⟨rfl, by decide, rfl, λ i hi => by omega⟩, by omega, by omega⟩, λ h => h (by omega)⟩
 ·intro a ha
  refine ⟨λ h => ⟨⟨Nat.one_pos, (λ h => by cases h), by omega, by omega⟩, a + 1, ⟨rfl, by rw [CP (by omega) (by omega)]; rfl, rfl, λ i hi => ?_⟩, by omega, by omega⟩, λ h => ⟨default, by omega, by omega⟩⟩
  by_cases h2 : i < a
  ·rw [decide_eq_true h2]; rfl
  ·rw [decide_eq_false h2]; show (i : Int) = a; omega
 ·intro i hi; rw [hI i hi]; omega
 ·rintro k ⟨hk, hq⟩
  refine ⟨λ h => ?_, λ h => ?_⟩
  ·have hk2 : k < c.ns.length := by omega
   refine ⟨⟨⟨by omega, by omega⟩, ⟨by omega, by omega, by omega⟩, ⟨⟨k, 0⟩, ⟨rfl, hTl k hk, λ i hi => ?_, rfl, rfl, rfl, rfl⟩, ⟨hk2, rfl, Nat.zero_le _, λ t ht => absurd ht (Nat.not_lt_zero _)⟩, hq⟩, ?_⟩, ?_, ?_⟩
   ·rw [hT _ _ (by have hi : i < ((AR c).take k).length := hi; rw [hTl k hk] at hi; exact hi), show Int.toNat 0 = 0 from rfl, Nat.zero_add]
   ·rintro y ⟨⟨y1, y2, y3, y4⟩, y5⟩
    have hp : ∀ j, j < y.i -> (bif decide ((gD c.ns (gD ((AR c).take y.i) j).toNat).mi > (BY c y.i).la) then KT c { a := gD ((AR c).take y.i) j, b := gD (AR c) y.i } else false) = fwP c (BY c y.i).la (gD (AR c) y.i) (gD (AR c) j) := λ j hj => by rw [hT _ _ hj]; rfl
    refine ⟨λ hj => ⟨⟨by omega, by rw [hTl _ (by omega)]; exact hj⟩, ⟨by rw [hT _ _ (by omega)]; exact hR _ (by omega), λ _ => ⟨⟨by rw [hT _ _ (by omega)]; exact hR _ (by omega), hR _ y1⟩, ⟨hl.2.1.2, hl.2.2⟩, hM⟩⟩, λ hc => ?_, λ hc => ?_⟩, λ hj => ?_⟩
    ·rw [hp _ (by omega)] at hc
     have e := CQA (by omega) (by omega) y4 hc
     rw [hT _ _ (by omega)]
     have h8 : (BY c y.i).r = [] := List.length_eq_zero_iff.1 (by rw [(hF y.i).2, y5]; rfl)
     refine ⟨hR _ y1, by decide, y.i, ?_, y1, y2, ?_⟩
     ·rw [e, y5, h8]
      refine ⟨rfl, rfl, rfl, rfl, rfl, λ i hi => ?_, rfl, λ i hi => ?_⟩
      ·have hi : i < 1 := hi
       obtain rfl : i = 0 := by omega
       rfl
      ·have hi : i < 1 := hi
       obtain rfl : i = 0 := by omega
       exact ⟨rfl, rfl⟩
     ·rw [e, y5]; exact Nat.one_pos
    ·rw [hp _ (by omega)] at hc
     have e : IntKind.i64.wrap ((y.j : Int) + 1) = ((y.j + 1 : Nat) : Int) := by rw [CP (by omega) (by omega)]; rfl
     refine ⟨⟨y.i, y.j + 1⟩, ⟨rfl, rfl, λ _ _ => rfl, rfl, e.symm, rfl, rfl⟩, ⟨⟨y1, y2, by show y.j + 1 <= y.i; omega, λ t ht => ?_⟩, y5⟩, by show _ - (y.j + 1) < _; omega⟩
     have ht : t < y.j + 1 := ht
     by_cases h2 : t = y.j
     ·subst h2; exact hc
     ·exact y4 t (by omega)
    ·have e := CRZ (by omega) (λ t (ht : t < y.i) => y4 t (by omega))
     refine ⟨y.i, ?_, y1, y2, ?_⟩
     ·rw [e]; exact ⟨rfl, rfl⟩
     ·rw [e]; exact y5
   ·rintro k' ⟨g1, g2, g3⟩
    refine ⟨k' + 1, ⟨rfl, by rw [CP (by omega) (by omega)]; rfl⟩, ⟨by omega, g3⟩, by omega⟩
   ·rintro k' ⟨g1, g2, g3⟩
    refine ⟨k' + 1, ⟨rfl, rfl, rfl, by rw [CP (by omega) (by omega)]; rfl, rfl, λ _ _ => rfl, rfl, λ _ _ => ⟨rfl, rfl⟩⟩, ⟨by omega, g3⟩, by omega⟩
  ·have e : k = c.ns.length := by omega
   have h8 : (BY c k).r = [] := List.length_eq_zero_iff.1 (by rw [(hF k).2, hq]; rfl)
   subst e
   exact ⟨default, by show (BY c _).q.length = 0; rw [hq]; rfl, by show (BY c _).q.length = 0; rw [hq]; rfl, by show (BY c _).r.length = 0; rw [h8]; rfl⟩
 ·rintro k ⟨hk, hq⟩
  refine ⟨λ h => ?_, λ h => ?_⟩
  ·have hk2 : k < c.ns.length := by omega
   refine ⟨⟨⟨by omega, by omega⟩, ⟨by omega, by omega, by omega⟩, ⟨⟨k, 0⟩, ⟨rfl, hTl k hk, λ i hi => ?_, rfl, rfl, rfl, rfl, rfl, rfl, rfl, λ _ _ => rfl, rfl, λ _ _ => ⟨rfl, rfl⟩⟩, ⟨hk2, rfl, Nat.zero_le _, λ t ht => absurd ht (Nat.not_lt_zero _)⟩, hq⟩, ?_⟩, ?_⟩
   ·rw [hT _ _ (by have hi : i < ((AR c).take k).length := hi; rw [hTl k hk] at hi; exact hi), show Int.toNat 0 = 0 from rfl, Nat.zero_add]
   ·rintro y ⟨⟨y1, y2, y3, y4⟩, y5⟩
    have hp : ∀ j, j < y.i -> (bif decide ((gD c.ns (gD ((AR c).take y.i) j).toNat).mi > (BY c y.i).la) then KT c { a := gD ((AR c).take y.i) j, b := gD (AR c) y.i } else false) = fwP c (BY c y.i).la (gD (AR c) y.i) (gD (AR c) j) := λ j hj => by rw [hT _ _ hj]; rfl
    refine ⟨λ hj => ⟨⟨by omega, by rw [hTl _ (by omega)]; exact hj⟩, ⟨by rw [hT _ _ (by omega)]; exact hR _ (by omega), λ _ => ⟨⟨by rw [hT _ _ (by omega)]; exact hR _ (by omega), hR _ y1⟩, ⟨hl.2.1.2, hl.2.2⟩, hM⟩⟩, λ hc => ?_, λ hc => ?_⟩, λ hj => ?_⟩
    ·rw [hp _ (by omega)] at hc
     have e := CQA (by omega) (by omega) y4 hc
     rw [hT _ _ (by omega)]
     have h9 := hF y.i
     refine ⟨hR _ y1, ⟨⟨Nat.one_pos, (λ h => by cases h), by omega, by omega⟩, Nat.one_pos, (λ h => by cases h), by omega, by omega⟩, y.i, ?_, y1, y2, ?_⟩
     ·rw [e]
      refine ⟨by simp, by simp, rfl, rfl, by simp, λ i hi => ?_, by simp, λ i hi => ?_⟩
      ·exact HY _ _ _ (by simpa using hi)
      ·have hi2 : i < (BY c y.i).r.length + 1 := by simpa using hi
       show (gD ((BY c y.i).r ++ [_]) i).a = _ /\ (gD ((BY c y.i).r ++ [_]) i).b = _
       rw [HY _ _ _ hi2]
       cases decide (i < (BY c y.i).r.length) <;> exact ⟨rfl, rfl⟩
     ·rw [e]; simp
    ·rw [hp _ (by omega)] at hc
     have e : IntKind.i64.wrap ((y.j : Int) + 1) = ((y.j + 1 : Nat) : Int) := by rw [CP (by omega) (by omega)]; rfl
     refine ⟨⟨y.i, y.j + 1⟩, ⟨rfl, rfl, λ _ _ => rfl, rfl, e.symm, rfl, rfl, rfl, rfl, rfl, λ _ _ => rfl, rfl, λ _ _ => ⟨rfl, rfl⟩⟩, ⟨⟨y1, y2, by show y.j + 1 <= y.i; omega, λ t ht => ?_⟩, y5⟩, by show _ - (y.j + 1) < _; omega⟩
     have ht : t < y.j + 1 := ht
     by_cases h2 : t = y.j
     ·subst h2; exact hc
     ·exact y4 t (by omega)
    ·have e := CRZ (by omega) (λ t (ht : t < y.i) => y4 t (by omega))
     refine ⟨y.i, ?_, y1, y2, ?_⟩
     ·rw [e]; exact ⟨rfl, rfl, rfl, rfl, rfl, λ _ _ => rfl, rfl, λ _ _ => ⟨rfl, rfl⟩⟩
     ·rw [e]; exact y5
   ·rintro k' ⟨g1, g2, g3⟩
    refine ⟨k' + 1, ⟨rfl, rfl, rfl, by rw [CP (by omega) (by omega)]; rfl, rfl, λ _ _ => rfl, rfl, λ _ _ => ⟨rfl, rfl⟩⟩, ⟨by omega, g3⟩, by omega⟩
  ·have e : k = c.ns.length := by omega
   subst e
   exact ⟨default, rfl, Nat.le_refl _, λ _ _ => rfl, rfl, Nat.le_refl _, λ _ _ => ⟨rfl, rfl⟩⟩
 ·have h9 := hF c.ns.length
  refine ⟨⟨λ _ => rfl, by have : (Dg c).q.length <= c.ns.length := h9.1; omega, hl.2.1.2⟩, ⟨hl.2.1.1, hl.2.1.2, hs.1⟩, λ hc => ?_, λ hc => ?_⟩
  ·have hc : (AU (fwW c)).2 = false := hc
   unfold tY; rw [hc]; exact ⟨rfl, rfl, rfl, rfl, rfl⟩
  ·have hc : (AU (fwW c)).2 = true := hc
   unfold tY; rw [hc]; exact ⟨rfl, λ _ _ => rfl, rfl, λ _ _ => ⟨rfl, rfl⟩, rfl⟩
def C_insZ : Ctr := { ro := [100], α := Cht, xs := λ _ => [.d FG, .int 0, .int 0, .fn (.func PC) [] [.bptr 100 0]], L := λ c => [(100, chB c)], val := λ _ => .d (.tup []), keep := λ c => [(100, .live (chB c))] }
def CGF : List AVal -> Heap -> Option (Cht × List (Nat × Nat) × List Nat)
 | [.d _, _, _, .fn _ _ [.bptr id _]], H => match TQ H id with
  | some q => some (q, [(100, id)], [])
  | none => none
 | _, _ => none
def iz1 (c : Cht) : Shape := { α := One, dflt := default, T := λ _ => ⟨[(0, .d FG), (1, .int 0), (2, .int 0), (3, .fn (.func PC) [] [.bptr 100 0]), (8, .int 1)], [(100, .live (chB c))]⟩, inv := λ _ => True, meas := λ _ => 0 }
def CJR (c : Cht) : Ann := { ann 53 [] with E := [100], loops := λ id => if id = 1 then some [iz1 c] else none }
def CFV (c : Cht) : Prop := AW Try.prog (CJR c) BDD (AK BDD) (C_insZ.xs c) (AF (C_insZ.L c)) (C_insZ.val c) (C_insZ.keep c) [] []
theorem CPT (c : Cht) : (CFV c) = ((∃ (a : One), ((0 : Nat) = (0 : Nat) /\ (∀ (i : Nat), i < (0 : Nat) -> false = false) /\ Int.ofNat (0 : Nat) = Int.ofNat (0 : Nat) /\ Int.ofNat (0 : Nat) = Int.ofNat (0 : Nat) /\
 Int.ofNat (1 : Nat) = Int.ofNat (((0 : Nat) + (1 : Nat)) % ((2 : Int) ^ IntKind.i64.bits).natAbs) /\ c.p.lo = c.p.lo /\ c.p.hi = c.p.hi /\ c.base = c.base /\ c.scale = c.scale /\ c.off = c.off /\ c.ms.length = c.ms.length /\ (∀
 (i : Nat), i < c.ms.length -> (gD c.ms i).pl = (gD c.ms i).pl /\ (gD c.ms i).ht = (gD c.ms i).ht) /\ c.ns.length = c.ns.length /\ ∀ (i : Nat), i < c.ns.length -> (gD c.ns i).mi = (gD c.ns i).mi /\ (gD c.ns i).t.lo = (gD c.ns
 i).t.lo /\ (gD c.ns i).t.hi = (gD c.ns i).t.hi /\ (gD c.ns i).s.lo = (gD c.ns i).s.lo /\ (gD c.ns i).s.hi = (gD c.ns i).s.hi) /\ True) /\ ∀ (a : One), True -> c.p.lo = c.p.lo /\ c.p.hi = c.p.hi /\ c.base = c.base /\ c.scale =
 c.scale /\ c.off = c.off /\ c.ms.length = c.ms.length /\ (∀ (i : Nat), i < c.ms.length -> (gD c.ms i).pl = (gD c.ms i).pl /\ (gD c.ms i).ht = (gD c.ms i).ht) /\ c.ns.length = c.ns.length /\ ∀ (i : Nat), i < c.ns.length -> (gD
 c.ns i).mi = (gD c.ns i).mi /\ (gD c.ns i).t.lo = (gD c.ns i).t.lo /\ (gD c.ns i).t.hi = (gD c.ns i).t.hi /\ (gD c.ns i).s.lo = (gD c.ns i).s.lo /\ (gD c.ns i).s.hi = (gD c.ns i).s.hi) := by kernel_rfl
theorem CMQ : AL Try.prog Z9 (C_insZ.spec CGF) := KV C_insZ CJR [] [] CBN (λ _ => by kernel_rfl) (λ _ => AI) (λ (c : Cht) _ => by
 show CFV c; rw [CPT]; exact ⟨⟨default, by simp; rfl, trivial⟩, λ _ _ => by simp⟩) (λ _ => MD rfl rfl) _
def C_pdqZ : Ctr := { ro := [100], α := Cht, xs := λ _ => [.d FG, .int 0, .int 0, .any, .fn (.func PC) [] [.bptr 100 0]], L := λ c => [(100, chB c)], val := λ _ => .d (.tup []), keep := λ c => [(100, .live (chB c))] }
def CKW : List AVal -> Heap -> Option (Cht × List (Nat × Nat) × List Nat)
 | [.d _, _, _, _, .fn _ _ [.bptr id _]], H => match TQ H id with
  | some q => some (q, [(100, id)], [])
  | none => none
 | _, _ => none
def pz2 (c : Cht) : Shape := { α := One, dflt := default, T := λ _ => ⟨[(0, .d FG), (1, .int 0), (2, .int 0), (3, .any), (4, .fn (.func PC) [] [.bptr 100 0]), (10, .bool true), (11, .bool true)], [(100, .live (chB c))]⟩, inv := λ _ => True, meas := λ _ => 0 }
def CLQ (c : Cht) : Ann := { ann 148 [(Z9, C_insZ.spec CGF)] with E := [100], loops := λ id => if id = 2 then some [pz2 c] else none }
def CHM (c : Cht) : Prop := AW Try.prog (CLQ c) BWC (AK BWC) (C_pdqZ.xs c) (AF (C_pdqZ.L c)) (C_pdqZ.val c) (C_pdqZ.keep c) [] []
theorem CNW (c : Cht) : (CHM c) = ((∃ (a : One), ((0 : Nat) = (0 : Nat) /\ (∀ (i : Nat), i < (0 : Nat) -> false = false) /\ Int.ofNat (0 : Nat) = Int.ofNat (0 : Nat) /\ Int.ofNat (0 : Nat) = Int.ofNat (0 : Nat) /\ true
 = true /\ true = true /\ c.p.lo = c.p.lo /\ c.p.hi = c.p.hi /\ c.base = c.base /\ c.scale = c.scale /\ c.off = c.off /\ c.ms.length = c.ms.length /\ (∀ (i : Nat), i < c.ms.length -> (gD c.ms i).pl = (gD c.ms i).pl /\ (gD c.ms
 i).ht = (gD c.ms i).ht) /\ c.ns.length = c.ns.length /\ ∀ (i : Nat), i < c.ns.length -> (gD c.ns i).mi = (gD c.ns i).mi /\ (gD c.ns i).t.lo = (gD c.ns i).t.lo /\ (gD c.ns i).t.hi = (gD c.ns i).t.hi /\ (gD c.ns i).s.lo = (gD
 c.ns i).s.lo /\ (gD c.ns i).s.hi = (gD c.ns i).s.hi) /\ True) /\ ∀ (a : One), True -> ((0 : Nat) = (0 : Nat) /\ (∀ (i : Nat), i < (0 : Nat) -> false = false) /\ Int.ofNat (0 : Nat) = Int.ofNat (0 : Nat) /\ Int.ofNat (0 : Nat) =
 Int.ofNat (0 : Nat) /\ c.p.lo = c.p.lo /\ c.p.hi = c.p.hi /\ c.base = c.base /\ c.scale = c.scale /\ c.off = c.off /\ (AE c.ms.length λ (i : Nat) => gD c.ms i).length = c.ms.length /\ (∀ (i : Nat), i < (AE c.ms.length fun
 (i : Nat) => gD c.ms i).length -> (gD (AE c.ms.length λ (i : Nat) => gD c.ms i) i).pl = (gD c.ms i).pl /\ (gD (AE c.ms.length λ (i : Nat) => gD c.ms i) i).ht = (gD c.ms i).ht) /\ (AE c.ns.length λ (i : Nat) => gD
 c.ns i).length = c.ns.length /\ (∀ (i : Nat), i < (AE c.ns.length λ (i : Nat) => gD c.ns i).length -> (gD (AE c.ns.length λ (i : Nat) => gD c.ns i) i).mi = (gD c.ns i).mi /\ (gD (AE c.ns.length λ (i : Nat) => gD
 c.ns i) i).t.lo = (gD c.ns i).t.lo /\ (gD (AE c.ns.length λ (i : Nat) => gD c.ns i) i).t.hi = (gD c.ns i).t.hi /\ (gD (AE c.ns.length λ (i : Nat) => gD c.ns i) i).s.lo = (gD c.ns i).s.lo /\ (gD (AE c.ns.length λ (i
 : Nat) => gD c.ns i) i).s.hi = (gD c.ns i).s.hi) /\ c.p.lo = c.p.lo /\ c.p.hi = c.p.hi /\ c.base = c.base /\ c.scale = c.scale /\ c.off = c.off /\ c.ms.length = (AE c.ms.length λ (i : Nat) => gD c.ms i).length /\ (∀ (i :
 Nat), i < c.ms.length -> (gD c.ms i).pl = (gD (AE c.ms.length λ (i : Nat) => gD c.ms i) i).pl /\ (gD c.ms i).ht = (gD (AE c.ms.length λ (i : Nat) => gD c.ms i) i).ht) /\ c.ns.length = (AE c.ns.length λ (i : Nat) =>
 gD c.ns i).length /\ ∀ (i : Nat), i < c.ns.length -> (gD c.ns i).mi = (gD (AE c.ns.length λ (i : Nat) => gD c.ns i) i).mi /\ (gD c.ns i).t.lo = (gD (AE c.ns.length λ (i : Nat) => gD c.ns i) i).t.lo /\ (gD c.ns i).t.hi
 = (gD (AE c.ns.length λ (i : Nat) => gD c.ns i) i).t.hi /\ (gD c.ns i).s.lo = (gD (AE c.ns.length λ (i : Nat) => gD c.ns i) i).s.lo /\ (gD c.ns i).s.hi = (gD (AE c.ns.length λ (i : Nat) => gD c.ns i) i).s.hi) /\
 c.p.lo = c.p.lo /\ c.p.hi = c.p.hi /\ c.base = c.base /\ c.scale = c.scale /\ c.off = c.off /\ c.ms.length = c.ms.length /\ (∀ (i : Nat), i < c.ms.length -> (gD c.ms i).pl = (gD c.ms i).pl /\ (gD c.ms i).ht = (gD c.ms i).ht) /\
 c.ns.length = c.ns.length /\ ∀ (i : Nat), i < c.ns.length -> (gD c.ns i).mi = (gD c.ns i).mi /\ (gD c.ns i).t.lo = (gD c.ns i).t.lo /\ (gD c.ns i).t.hi = (gD c.ns i).t.hi /\ (gD c.ns i).s.lo = (gD c.ns i).s.lo /\ (gD c.ns
 i).s.hi = (gD c.ns i).s.hi) := by kernel_rfl
theorem COO : AL Try.prog BJV (C_pdqZ.spec CKW) := KV C_pdqZ CLQ [] [] CKT (λ _ => by kernel_rfl) (λ _ => AD CMQ AI) (λ (c : Cht) _ => by
 show CHM c; rw [CNW]; simp only [CC, eq_self, implies_true, forall_const]; exact ⟨default, trivial⟩) (λ _ => MD rfl rfl) _
def C_sortZ : Ctr := { ro := [100], α := Cht, xs := λ _ => [.d FG, .fn (.func PC) [] [.bptr 100 0]], L := λ c => [(100, chB c)], val := λ _ => .d (.tup []), keep := λ c => [(100, .live (chB c))] }
def CDL : List AVal -> Heap -> Option (Cht × List (Nat × Nat) × List Nat)
 | [.d _, .fn _ _ [.bptr id _]], H => match TQ H id with
  | some q => some (q, [(100, id)], [])
  | none => none
 | _, _ => none
def CCE : Ann := { ann 14 [(BOK, BJN), (BJV, C_pdqZ.spec CKW)] with E := [100] }
def CBC (c : Cht) : Prop := AW Try.prog CCE yZ (AK yZ) (C_sortZ.xs c) (AF (C_sortZ.L c)) (C_sortZ.val c) (C_sortZ.keep c) [] []
theorem CMK (c : Cht) : (CBC c) = ((((0 : Int) <= IntKind.u64.wrap (↑(0 : Nat) : Int) /\ IntKind.u64.wrap (↑(0 : Nat) : Int) <= (20 : Int)) /\ (0 : Nat) = (0 : Nat) /\ (∀ (i : Nat), i < (0 : Nat) -> false = false) /\
 Int.ofNat (0 : Nat) = Int.ofNat (0 : Nat) /\ Int.ofNat (0 : Nat) = Int.ofNat (0 : Nat) /\ c.p.lo = c.p.lo /\ c.p.hi = c.p.hi /\ c.base = c.base /\ c.scale = c.scale /\ c.off = c.off /\ (AE c.ms.length λ (i : Nat) => gD c.ms
 i).length = c.ms.length /\ (∀ (i : Nat), i < (AE c.ms.length λ (i : Nat) => gD c.ms i).length -> (gD (AE c.ms.length λ (i : Nat) => gD c.ms i) i).pl = (gD c.ms i).pl /\ (gD (AE c.ms.length λ (i : Nat) => gD c.ms i)
 i).ht = (gD c.ms i).ht) /\ (AE c.ns.length λ (i : Nat) => gD c.ns i).length = c.ns.length /\ (∀ (i : Nat), i < (AE c.ns.length λ (i : Nat) => gD c.ns i).length -> (gD (AE c.ns.length λ (i : Nat) => gD c.ns i) i).mi
 = (gD c.ns i).mi /\ (gD (AE c.ns.length λ (i : Nat) => gD c.ns i) i).t.lo = (gD c.ns i).t.lo /\ (gD (AE c.ns.length λ (i : Nat) => gD c.ns i) i).t.hi = (gD c.ns i).t.hi /\ (gD (AE c.ns.length λ (i : Nat) => gD c.ns
 i) i).s.lo = (gD c.ns i).s.lo /\ (gD (AE c.ns.length λ (i : Nat) => gD c.ns i) i).s.hi = (gD c.ns i).s.hi) /\ c.p.lo = c.p.lo /\ c.p.hi = c.p.hi /\ c.base = c.base /\ c.scale = c.scale /\ c.off = c.off /\ c.ms.length = (AE
 c.ms.length λ (i : Nat) => gD c.ms i).length /\ (∀ (i : Nat), i < c.ms.length -> (gD c.ms i).pl = (gD (AE c.ms.length λ (i : Nat) => gD c.ms i) i).pl /\ (gD c.ms i).ht = (gD (AE c.ms.length λ (i : Nat) => gD c.ms i)
 i).ht) /\ c.ns.length = (AE c.ns.length λ (i : Nat) => gD c.ns i).length /\ ∀ (i : Nat), i < c.ns.length -> (gD c.ns i).mi = (gD (AE c.ns.length λ (i : Nat) => gD c.ns i) i).mi /\ (gD c.ns i).t.lo = (gD (AE
 c.ns.length λ (i : Nat) => gD c.ns i) i).t.lo /\ (gD c.ns i).t.hi = (gD (AE c.ns.length λ (i : Nat) => gD c.ns i) i).t.hi /\ (gD c.ns i).s.lo = (gD (AE c.ns.length λ (i : Nat) => gD c.ns i) i).s.lo /\ (gD c.ns
 i).s.hi = (gD (AE c.ns.length λ (i : Nat) => gD c.ns i) i).s.hi) /\ c.p.lo = c.p.lo /\ c.p.hi = c.p.hi /\ c.base = c.base /\ c.scale = c.scale /\ c.off = c.off /\ c.ms.length = c.ms.length /\ (∀ (i : Nat), i < c.ms.length ->
 (gD c.ms i).pl = (gD c.ms i).pl /\ (gD c.ms i).ht = (gD c.ms i).ht) /\ c.ns.length = c.ns.length /\ ∀ (i : Nat), i < c.ns.length -> (gD c.ns i).mi = (gD c.ns i).mi /\ (gD c.ns i).t.lo = (gD c.ns i).t.lo /\ (gD c.ns i).t.hi =
 (gD c.ns i).t.hi /\ (gD c.ns i).s.lo = (gD c.ns i).s.lo /\ (gD c.ns i).s.hi = (gD c.ns i).s.hi) := by kernel_rfl
theorem CKG : AL Try.prog uL (C_sortZ.spec CDL) := KV C_sortZ (λ _ => CCE) [] [] BWM (λ _ => by kernel_rfl) (λ _ => AD CHD (AD COO AI)) (λ (c : Cht) _ => by
 show CBC c; rw [CMK]; simp only [CC, eq_self, implies_true, forall_const]; rw [u64w (by omega) (by omega)]; omega) (λ _ => MD rfl rfl) _
def fz6 (c : Cht) : Shape := { α := One, dflt := default, T := λ _ => ⟨(7, .d FG) :: fw6S c 0, fwH c⟩, inv := λ _ => c.ns.length = 0, meas := λ _ => 60, first := fwR }
def fz15 (c : Cht) : Shape := { α := One, dflt := default, T := λ _ => ⟨CAZ ++ [(1, .bptr 201 0), (5, .bptr 203 0), (7, .d FG), (11, .int (-1)), (41, .d FG), (42, .int 0), (43, .int 0)], fwH c⟩, inv := λ _ => c.ns.length = 0, meas := λ _ => 60 }
def CHQ (c : Cht) : Ann := { ann 101 [(GH, C_open.spec dC1), (uL, C_sortZ.spec CDL), (BGM, C_stop.spec dDkZ), (uM, C_times.spec dDk1)] with loops := λ id => if id = 6 then some [fz6 c] else if id = 15 then some [fz15 c] else none }
def CFK (c : Cht) : Prop := AW Try.prog (CHQ c) SC (AK SC) [.d (YV c)] (AF []) (.tup [.d (CO (tY c).q), .d (ZA (tY c).r), .int (tY c).e]) [] [] []
abbrev D4 (c : Cht) : List Mk := AE c.ms.length λ (i : Nat) => gD c.ms i
abbrev Nv (c : Cht) : Nat := (D4 c).length
abbrev BCL (c : Cht) : Prop := Nv c = c.ms.length
abbrev BHX (c : Cht) (i : Nat) : Mk := gD (D4 c) i
abbrev AYR (c : Cht) (i : Nat) : Int := (BHX c i).pl
abbrev BGS (c : Cht) (i : Nat) : Int := (BHX c i).ht
abbrev AYO (c : Cht) : Prop := ∀ (i : Nat), i < Nv c -> AYR c i = (gD c.ms i).pl /\ BGS c i = (gD c.ms i).ht
abbrev zB (c : Cht) : List Nt := AE c.ns.length λ (i : Nat) => gD c.ns i
abbrev Vy (c : Cht) : Nat := (zB c).length
abbrev ARM (c : Cht) : Prop := Vy c = c.ns.length
abbrev Yh (c : Cht) (i : Nat) : Nt := gD (zB c) i
abbrev AFJ (c : Cht) (i : Nat) : Int := (Yh c i).mi
abbrev AHR (c : Cht) (i : Nat) : Span := (Yh c i).t
abbrev N6 (c : Cht) (i : Nat) : Int := (AHR c i).lo
abbrev AAV (c : Cht) (i : Nat) : Int := (AHR c i).hi
abbrev AIJ (c : Cht) (i : Nat) : Span := (Yh c i).s
abbrev AEA (c : Cht) (i : Nat) : Int := (AIJ c i).lo
abbrev AEH (c : Cht) (i : Nat) : Int := (AIJ c i).hi
abbrev AKQ (c : Cht) : Prop := ∀ (i : Nat), i < Vy c -> AFJ c i = (gD c.ns i).mi /\ N6 c i = (gD c.ns i).t.lo /\ AAV c i = (gD c.ns i).t.hi /\ AEA c i = (gD c.ns i).s.lo /\ AEH c i =
 (gD c.ns i).s.hi
abbrev Q2 (c : Cht) : Cht := Cht.mk c.p c.base c.scale c.off (D4 c) (zB c)
abbrev IK : Prop := (0 : Nat) = (0 : Nat)
abbrev LM : Prop := ∀ (i : Nat), i < (0 : Nat) -> false = false
abbrev dG : Prop := Int.ofNat (0 : Nat) = Int.ofNat (0 : Nat)
abbrev W6 (c : Cht) : Prop := c.ms.length = c.ms.length
abbrev M2 (c : Cht) : Prop := ∀ (i : Nat), i < c.ms.length -> (gD c.ms i).pl = (gD c.ms i).pl /\ (gD c.ms i).ht = (gD c.ms i).ht
abbrev ALR (c : Cht) : Prop := c.ns.length = c.ns.length
abbrev AJA (c : Cht) : Prop := ∀ (i : Nat), i < c.ns.length -> (gD c.ns i).mi = (gD c.ns i).mi /\ (gD c.ns i).t.lo = (gD c.ns i).t.lo /\ (gD c.ns i).t.hi = (gD c.ns i).t.hi /\ (gD c.ns i).s.lo = (gD c.ns i).s.lo /\ (gD
 c.ns i).s.hi = (gD c.ns i).s.hi
abbrev AGE (c : Cht) : Dk := AG (Q2 c)
abbrev LN (c : Cht) : Cht := (AGE c).c
abbrev ABM (c : Cht) : Span := (LN c).p
abbrev AGN (c : Cht) : List Mk := (LN c).ms
abbrev W9 (i : Nat) (c : Cht) : Prop := i < (AG c).c.ms.length
abbrev ABC (c : Cht) (i : Nat) : Mk := gD (AGN c) i
abbrev ZE (c : Cht) : List Nt := (LN c).ns
abbrev O4 (i : Nat) (c : Cht) : Prop := i < (AG c).c.ns.length
abbrev eR (c : Cht) (i : Nat) : Nt := gD (ZE c) i
abbrev Bz (c : Cht) (i : Nat) : Int := (gD (AG c).c.ns i).t.lo
abbrev AFR (c : Cht) (i : Nat) : Span := (eR c i).t
abbrev ZK (c : Cht) (i : Nat) : Int := (gD (AG c).c.ns i).t.hi
abbrev Bk (c : Cht) (i : Nat) : Int := (gD (AG c).c.ns i).s.lo
abbrev ACN (c : Cht) (i : Nat) : Span := (eR c i).s
abbrev Bn (c : Cht) (i : Nat) : Int := (gD (AG c).c.ns i).s.hi
abbrev RI : Prop := ∀ (i : Nat), i < (40 : Nat) -> false = false
abbrev bE (c : Cht) (n : Int) : Nt := ntOf (ZE c) n
abbrev AKY (c : Cht) (n : Int) : Span := (bE c n).t
abbrev ALD (c : Cht) (n : Int) : Span := (bE c n).s
abbrev Dq (c : Cht) : Prop := c.ns.length = (0 : Nat)
abbrev ALT : Prop := (0 : Nat) < (1 : Nat)
abbrev T5 (c : Cht) : Prop := (AG c).c.p.lo = (AG c).c.p.lo
abbrev X2 (c : Cht) : Prop := (AG c).c.p.hi = (AG c).c.p.hi
abbrev ALS (c : Cht) : Prop := (AG c).c.base = (AG c).c.base
abbrev ABB (c : Cht) : Prop := (AG c).c.scale = (AG c).c.scale
abbrev AEW (c : Cht) : Prop := (AG c).c.off = (AG c).c.off
abbrev De (c : Cht) : Prop := ∀ (n : Int), (AG c).st n = (AG c).st n
abbrev cV (c : Cht) : List Mk := AE (AG c).c.ms.length λ (i : Nat) => gD (AG c).c.ms i
abbrev Zh (c : Cht) : Nat := (cV c).length
abbrev ADV (c : Cht) (i : Nat) : Mk := gD (cV c) i
abbrev RG (c : Cht) : List Nt := AE (AG c).c.ns.length λ (i : Nat) => gD (AG c).c.ns i
abbrev AKK (c : Cht) : Nat := (RG c).length
abbrev cA (c : Cht) (i : Nat) : Nt := gD (RG c) i
abbrev P0 (c : Cht) (i : Nat) : Span := (cA c i).t
abbrev AFK (c : Cht) (i : Nat) : Span := (cA c i).s
abbrev Yp (c : Cht) (n : Int) : Nt := ntOf (RG c) n
abbrev ALX (c : Cht) (n : Int) : Span := (Yp c n).t
abbrev V6 (c : Cht) (n : Int) : Span := (Yp c n).s
abbrev aX (c : Cht) : Dk := aD (DkZ.mk (Dk.mk (Cht.mk (AG c).c.p (AG c).c.base (AG c).c.scale (AG c).c.off (cV c) (RG c)) (AG c).st (AG c).sp) (AE (0 : Nat) λ (i : Nat) => default))
abbrev LZ (c : Cht) : Cht := (aX c).c
abbrev Db (c : Cht) : List Nt := (LZ c).ns
abbrev Zt (c : Cht) (n : Int) : Nt := ntOf (Db c) n
abbrev AAJ (c : Cht) (n : Int) : Span := (Zt c n).t
abbrev AJZ (c : Cht) (n : Int) : Span := (Zt c n).s
abbrev cC (c : Cht) : Span := (LZ c).p
abbrev ADM (c : Cht) : Int := (cC c).lo
abbrev Y8 (c : Cht) : Prop := ADM c = ADM c
abbrev T4 (c : Cht) : Int := (cC c).hi
abbrev AIT (c : Cht) : Prop := T4 c = T4 c
abbrev dF (c : Cht) : Int := (LZ c).base
abbrev V0 (c : Cht) : Prop := dF c = dF c
abbrev bC (c : Cht) : Int := (LZ c).scale
abbrev Q8 (c : Cht) : Prop := bC c = bC c
abbrev aP (c : Cht) : Int := (LZ c).off
abbrev ABF (c : Cht) : Prop := aP c = aP c
abbrev AKH (c : Cht) : List Mk := (LZ c).ms
abbrev Dp (c : Cht) : Nat := (AKH c).length
abbrev fP (c : Cht) (i : Nat) : Mk := gD (AKH c) i
abbrev cD (c : Cht) : List Mk := AE (Dp c) λ (i : Nat) => fP c i
abbrev MV (c : Cht) : Nat := (cD c).length
abbrev ALC (c : Cht) (i : Nat) : Mk := gD (cD c) i
abbrev AHC (c : Cht) (i : Nat) : Int := (ALC c i).pl
abbrev AIS (c : Cht) (i : Nat) : Int := (fP c i).pl
abbrev AHQ (c : Cht) (i : Nat) : Int := (ALC c i).ht
abbrev V1 (c : Cht) (i : Nat) : Int := (fP c i).ht
abbrev By (c : Cht) : Nat := (Db c).length
abbrev Ch (c : Cht) (i : Nat) : Nt := gD (Db c) i
abbrev RB (c : Cht) : List Nt := AE (By c) λ (i : Nat) => Ch c i
abbrev bI (c : Cht) : Nat := (RB c).length
abbrev aV (c : Cht) (i : Nat) : Nt := gD (RB c) i
abbrev AKI (c : Cht) (i : Nat) : Int := (aV c i).mi
abbrev AKB (c : Cht) (i : Nat) : Int := (Ch c i).mi
abbrev AIN (c : Cht) (i : Nat) : Span := (aV c i).t
abbrev iR (c : Cht) (i : Nat) : Int := (AIN c i).lo
abbrev kQ (c : Cht) (i : Nat) : Span := (Ch c i).t
abbrev kG (c : Cht) (i : Nat) : Int := (kQ c i).lo
abbrev qS (c : Cht) (i : Nat) : Int := (AIN c i).hi
abbrev tS (c : Cht) (i : Nat) : Int := (kQ c i).hi
abbrev sZ (c : Cht) (i : Nat) : Span := (aV c i).s
abbrev iU (c : Cht) (i : Nat) : Int := (sZ c i).lo
abbrev sV (c : Cht) (i : Nat) : Span := (Ch c i).s
abbrev nW (c : Cht) (i : Nat) : Int := (sV c i).lo
abbrev iV (c : Cht) (i : Nat) : Int := (sZ c i).hi
abbrev mV (c : Cht) (i : Nat) : Int := (sV c i).hi
abbrev Hu (c : Cht) (n : Int) : Bool := hasN (RB c) n
abbrev Ik (c : Cht) (n : Int) : Nt := ntOf (RB c) n
abbrev jT (c : Cht) (n : Int) : Int := (Ik c n).mi
abbrev kV (c : Cht) (n : Int) : Span := (Ik c n).t
abbrev tX (c : Cht) (n : Int) : Int := (kV c n).lo
abbrev mM (c : Cht) (n : Int) : Int := (kV c n).hi
abbrev tA (c : Cht) (n : Int) : Span := (Ik c n).s
abbrev rR (c : Cht) (n : Int) : Int := (tA c n).lo
abbrev tJ (c : Cht) (n : Int) : Int := (tA c n).hi
abbrev TF (c : Cht) : Prop := (tY c).q.length = (0 : Nat)
abbrev UF (c : Cht) : Prop := (tY c).r.length = (0 : Nat)
theorem CNP (c : Cht) : (CFK c) = ((c.p.lo = c.p.lo /\ c.p.hi = c.p.hi /\ c.base = c.base /\ c.scale = c.scale /\ c.off = c.off /\ BCL c /\ AYO c /\ ARM c /\ AKQ c /\ (Nv c < (4611686018427387904
 : Nat) /\ Vy c < (4611686018427387904 : Nat)) /\ AJ (Q2 c) = (0 : Int)) /\ (∃ (a : One), (IK /\ LM /\ (↑c.ns.length : Int) = (↑c.ns.length : Int) /\ dG /\ c.p.lo = c.p.lo /\ c.p.hi = c.p.hi
 /\ c.base = c.base /\ c.scale = c.scale /\ c.off = c.off /\ W6 c /\ M2 c /\ ALR c /\ AJA c /\ (AG c).c.p.lo = (ABM c).lo /\ (AG c).c.p.hi = (ABM c).hi /\ (AG c).c.base = (LN
 c).base /\ (AG c).c.scale = (LN c).scale /\ (AG c).c.off = (LN c).off /\ (AG c).c.ms.length = (AGN c).length /\ (∀ (i : Nat), W9 i c -> (gD (AG c).c.ms i).pl = (ABC c i).pl /\ (gD (AG
 c).c.ms i).ht = (ABC c i).ht) /\ (AG c).c.ns.length = (ZE c).length /\ (∀ (i : Nat), O4 i c -> (gD (AG c).c.ns i).mi = (eR c i).mi /\ Bz c i = (AFR c i).lo /\ ZK c i =
 (AFR c i).hi /\ Bk c i = (ACN c i).lo /\ Bn c i = (ACN c i).hi) /\ RI /\ AT = AT /\ (∀ (n : Int), hasN (AG c).c.ns n = hasN (ZE c) n) /\ (∀ (n : Int), (AG c).st n =
 (AGE c).st n) /\ ∀ (n : Int), (ntOf (AG c).c.ns n).mi = (bE c n).mi /\ (ntOf (AG c).c.ns n).t.lo = (AKY c n).lo /\ (ntOf (AG c).c.ns n).t.hi = (AKY c n).hi /\ (ntOf (AG c).c.ns n).s.lo =
 (ALD c n).lo /\ (ntOf (AG c).c.ns n).s.hi = (ALD c n).hi) /\ Dq c) /\ ∀ (a : One), Dq c -> bif decide ((↑(0 : Nat) : Int) < (↑c.ns.length : Int)) then ((True /\ ((0 : Nat) < (0 : Nat) -> (0 : Nat) =
 (1 : Nat))) /\ ((1 : Nat) <= (1 : Nat) /\ (ALT -> (1 : Nat) = (1 : Nat))) /\ (false = true -> ALT) /\ (1 : Nat) <= (9223372036854775807 : Nat) /\ (8 : Nat) <= (140737488355328 : Nat)) /\ False else (IK /\
 LM /\ c.p.lo = c.p.lo /\ c.p.hi = c.p.hi /\ c.base = c.base /\ c.scale = c.scale /\ c.off = c.off /\ BCL c /\ AYO c /\ ARM c /\ AKQ c /\ c.p.lo = c.p.lo /\ c.p.hi = c.p.hi /\ c.base = c.base /\ c.scale =
 c.scale /\ c.off = c.off /\ c.ms.length = Nv c /\ (∀ (i : Nat), i < c.ms.length -> (gD c.ms i).pl = AYR c i /\ (gD c.ms i).ht = BGS c i) /\ c.ns.length = Vy c /\ ∀ (i : Nat), i < c.ns.length -> (gD c.ns
 i).mi = AFJ c i /\ (gD c.ns i).t.lo = N6 c i /\ (gD c.ns i).t.hi = AAV c i /\ (gD c.ns i).s.lo = AEA c i /\ (gD c.ns i).s.hi = AEH c i) /\ (∃ (a : One), (IK /\ LM /\ IK /\
 LM /\ IK /\ LM /\ Int.negSucc (0 : Nat) = Int.negSucc (0 : Nat) /\ IK /\ LM /\ dG /\ dG /\ c.p.lo = c.p.lo /\ c.p.hi = c.p.hi /\ c.base = c.base /\ c.scale = c.scale /\ c.off = c.off
 /\ W6 c /\ M2 c /\ ALR c /\ AJA c /\ T5 c /\ X2 c /\ ALS c /\ ABB c /\ AEW c /\ (AG c).c.ms.length = (AG c).c.ms.length /\ (∀ (i : Nat), W9 i c -> (gD (AG
 c).c.ms i).pl = (gD (AG c).c.ms i).pl /\ (gD (AG c).c.ms i).ht = (gD (AG c).c.ms i).ht) /\ (AG c).c.ns.length = (AG c).c.ns.length /\ (∀ (i : Nat), O4 i c -> (gD (AG c).c.ns i).mi = (gD (AG c).c.ns i).mi
 /\ Bz c i = Bz c i /\ ZK c i = ZK c i /\ Bk c i = Bk c i /\ Bn c i = Bn c i) /\ RI /\ AT = AT /\ (∀ (n : Int), hasN (AG c).c.ns n = hasN (AG c).c.ns n) /\
 De c /\ ∀ (n : Int), (ntOf (AG c).c.ns n).mi = (ntOf (AG c).c.ns n).mi /\ (ntOf (AG c).c.ns n).t.lo = (ntOf (AG c).c.ns n).t.lo /\ (ntOf (AG c).c.ns n).t.hi = (ntOf (AG c).c.ns n).t.hi /\ (ntOf (AG
 c).c.ns n).s.lo = (ntOf (AG c).c.ns n).s.lo /\ (ntOf (AG c).c.ns n).s.hi = (ntOf (AG c).c.ns n).s.hi) /\ Dq c) /\ ∀ (a : One), Dq c -> (IK /\ IK /\ T5 c /\ X2 c /\ ALS c /\
 ABB c /\ AEW c /\ Zh c = (AG c).c.ms.length /\ (∀ (i : Nat), i < Zh c -> (ADV c i).pl = (gD (AG c).c.ms i).pl /\ (ADV c i).ht = (gD (AG c).c.ms i).ht) /\ AKK c = (AG
 c).c.ns.length /\ (∀ (i : Nat), i < AKK c -> (cA c i).mi = (gD (AG c).c.ns i).mi /\ (P0 c i).lo = Bz c i /\ (P0 c i).hi = ZK c i /\ (AFK c i).lo = Bk c i /\ (AFK c
 i).hi = Bn c i) /\ RI /\ AT = AT /\ (∀ (n : Int), hasN (RG c) n = hasN (AG c).c.ns n) /\ De c /\ (∀ (n : Int), (Yp c n).mi = (ntOf (AG c).c.ns n).mi /\ (ALX c n).lo = (ntOf (AG
 c).c.ns n).t.lo /\ (ALX c n).hi = (ntOf (AG c).c.ns n).t.hi /\ (V6 c n).lo = (ntOf (AG c).c.ns n).s.lo /\ (V6 c n).hi = (ntOf (AG c).c.ns n).s.hi) /\ AT = AT /\ (∀ (n : Int), hasN (AG c).c.ns n =
 hasN (Db c) n) /\ (∀ (n : Int), (AG c).st n = (aX c).st n) /\ (∀ (n : Int), (ntOf (AG c).c.ns n).mi = (Zt c n).mi /\ (ntOf (AG c).c.ns n).t.lo = (AAJ c n).lo /\ (ntOf (AG c).c.ns n).t.hi =
 (AAJ c n).hi /\ (ntOf (AG c).c.ns n).s.lo = (AJZ c n).lo /\ (ntOf (AG c).c.ns n).s.hi = (AJZ c n).hi) /\ (0 : Nat) < (4611686018427387904 : Nat) /\ Zh c <= (40 : Nat)) /\ (Y8 c /\ AIT c
 /\ V0 c /\ Q8 c /\ ABF c /\ MV c = Dp c /\ (∀ (i : Nat), i < MV c -> AHC c i = AIS c i /\ AHQ c i = V1 c i) /\ bI c = By c /\ (∀ (i : Nat), i <
 bI c -> AKI c i = AKB c i /\ iR c i = kG c i /\ qS c i = tS c i /\ iU c i = nW c i /\ iV c i = mV c i) /\ RI /\ AT = AT /\ (∀ (n : Int),
 Hu c n = hasN (AG c).c.ns n) /\ De c /\ (∀ (n : Int), jT c n = (ntOf (AG c).c.ns n).mi /\ tX c n = (ntOf (AG c).c.ns n).t.lo /\ mM c n = (ntOf (AG c).c.ns n).t.hi /\ rR c
 n = (ntOf (AG c).c.ns n).s.lo /\ tJ c n = (ntOf (AG c).c.ns n).s.hi) /\ Y8 c /\ AIT c /\ V0 c /\ Q8 c /\ ABF c /\ Dp c = MV c /\ (∀ (i : Nat), i < Dp c ->
 AIS c i = AHC c i /\ V1 c i = AHQ c i) /\ By c = bI c /\ (∀ (i : Nat), i < By c -> AKB c i = AKI c i /\ kG c i = iR c i /\ tS c i = qS c
 i /\ nW c i = iU c i /\ mV c i = iV c i) /\ RI /\ AT = AT /\ (∀ (n : Int), hasN (AG c).c.ns n = Hu c n) /\ De c /\ (∀ (n : Int), (ntOf (AG c).c.ns n).mi = jT c
 n /\ (ntOf (AG c).c.ns n).t.lo = tX c n /\ (ntOf (AG c).c.ns n).t.hi = mM c n /\ (ntOf (AG c).c.ns n).s.lo = rR c n /\ (ntOf (AG c).c.ns n).s.hi = tJ c n) /\ (1 : Nat) <= MV c /\
 MV c <= (40 : Nat) /\ ∀ (j : Int), Hu c j = true -> (0 : Int) <= j /\ j < (↑(MV c) : Int)) /\ bif !(AU (Dk.mk (Cht.mk (cC c) (dF c) (bC c) (aP c) (cD c) (RB
 c)) (AG c).st (aX c).sp)).snd then TF c /\ TF c /\ UF c /\ UF c /\ (tY c).e = (6 : Int) else TF c /\ TF c /\ UF c /\ UF c /\ (tY c).e = (0 : Int)) := by
 kernel_rfl
def CFR : Ann := ann 101 [(GH, C_openX.spec dC1)]
def CMJ (c : Cht) : Prop := AW Try.prog CFR SC (AK SC) [.d (YV c)] (AF []) (.tup [.d (CO nilI), .d (ZA nilP), .int (AJ c)]) [] [] []
theorem CNT (c : Cht) : (CMJ c) = ((c.p.lo = c.p.lo /\ c.p.hi = c.p.hi /\ c.base = c.base /\ c.scale = c.scale /\ c.off = c.off /\ (AE c.ms.length λ (i : Nat) => gD c.ms i).length = c.ms.length /\ (∀ (i : Nat), i <
 (AE c.ms.length λ (i : Nat) => gD c.ms i).length -> (gD (AE c.ms.length λ (i : Nat) => gD c.ms i) i).pl = (gD c.ms i).pl /\ (gD (AE c.ms.length λ (i : Nat) => gD c.ms i) i).ht = (gD c.ms i).ht) /\ (AE c.ns.length
 λ (i : Nat) => gD c.ns i).length = c.ns.length /\ (∀ (i : Nat), i < (AE c.ns.length λ (i : Nat) => gD c.ns i).length -> (gD (AE c.ns.length λ (i : Nat) => gD c.ns i) i).mi = (gD c.ns i).mi /\ (gD (AE c.ns.length
 λ (i : Nat) => gD c.ns i) i).t.lo = (gD c.ns i).t.lo /\ (gD (AE c.ns.length λ (i : Nat) => gD c.ns i) i).t.hi = (gD c.ns i).t.hi /\ (gD (AE c.ns.length λ (i : Nat) => gD c.ns i) i).s.lo = (gD c.ns i).s.lo /\ (gD
 (AE c.ns.length λ (i : Nat) => gD c.ns i) i).s.hi = (gD c.ns i).s.hi) /\ ((AE c.ms.length λ (i : Nat) => gD c.ms i).length < 4611686018427387904 /\ (AE c.ns.length λ (i : Nat) => gD c.ns i).length <
 4611686018427387904) /\ AJ (Cht.mk c.p c.base c.scale c.off (AE c.ms.length λ (i : Nat) => gD c.ms i) (AE c.ns.length λ (i : Nat) => gD c.ns i)) ≠ 0) /\ bif AJ (Cht.mk c.p c.base c.scale c.off (AE
 c.ms.length λ (i : Nat) => gD c.ms i) (AE c.ns.length λ (i : Nat) => gD c.ns i)) != 0 then 0 = 0 /\ 0 = 0 /\ 0 = 0 /\ 0 = 0 /\ AJ c = AJ (Cht.mk c.p c.base c.scale c.off (AE c.ms.length λ (i : Nat) => gD c.ms
 i) (AE c.ns.length λ (i : Nat) => gD c.ns i)) else False) := by kernel_rfl
theorem CVS (c : Cht) (h1 : c.ms.length < 4611686018427387904 /\ c.ns.length < 4611686018427387904) (h0 : AJ c = 0) (hn : c.ns.length = 0) : CFK c := by
 have hl := EB h0
 have hs := aF h0
 rw [CNP]; delta D4 Nv BCL BHX AYR BGS AYO zB Vy ARM Yh AFJ AHR N6 AAV AIJ AEA AEH AKQ Q2 IK LM dG W6 M2 ALR AJA AGE LN ABM AGN W9 ABC ZE O4 eR Bz AFR ZK Bk ACN Bn RI bE AKY ALD Dq ALT T5 X2 ALS ABB AEW De cV Zh ADV RG AKK cA P0 AFK Yp ALX V6 aX LZ Db Zt AAJ AJZ cC ADM Y8 T4 AIT dF V0 bC Q8 aP ABF AKH Dp fP cD MV ALC AHC AIS AHQ V1 By Ch RB bI aV AKI AKB AIN iR kQ kG qS tS sZ iU sV nW iV mV Hu Ik jT kV tX mM tA rR tJ TF UF; simp only [CC, eq_self, implies_true, forall_const, BH, W2, YR, BWD, BDY]
 have hq : (Dg c).q = [] := by unfold Dg; rw [hn]; rfl
 have hr : (Dg c).r = [] := by unfold Dg; rw [hn]; rfl
 refine ⟨⟨h1, h0⟩, ⟨default, hn⟩, λ _ => ⟨λ h => by omega, λ _ => ⟨⟨default, hn⟩, λ _ => ⟨⟨λ n => rfl, by decide, hl.2.1.2⟩, ⟨hl.2.1.1, hl.2.1.2, hs.1⟩, λ hc => ?_, λ hc => ?_⟩⟩⟩⟩
 ·have hc : (AU (aD ⟨AG c, []⟩)).2 = false := hc
  have hc : (AU (fwW c)).2 = false := by unfold fwW; rw [hq]; exact hc
  unfold tY; rw [hc]; exact ⟨rfl, rfl, rfl, rfl, rfl⟩
 ·have hc : (AU (aD ⟨AG c, []⟩)).2 = true := hc
  have hc : (AU (fwW c)).2 = true := by unfold fwW; rw [hq]; exact hc
  unfold tY; rw [hc]
  exact ⟨by show (Dg c).q.length = 0; rw [hq]; rfl, by show (Dg c).q.length = 0; rw [hq]; rfl, by show (Dg c).r.length = 0; rw [hr]; rfl, by show (Dg c).r.length = 0; rw [hr]; rfl, rfl⟩
theorem CKN : AL Try.prog BFF (C_few.spec dC1) := okT C_few (λ (c : Cht) h => by
 obtain ⟨h1, h2⟩ : (c.ms.length < 4611686018427387904 /\ c.ns.length < 4611686018427387904) /\ (AJ c = 0 -> c.ns.length <= 12) := h
 by_cases h0 : AJ c = 0
 ·have e : C_few.val c = .tup [.d (CO (tY c).q), .d (ZA (tY c).r), .int (tY c).e] := by
   show AVal.tup [.d (CO (DA c).q), .d (ZA (DA c).r), .int (DA c).e] = _
   unfold DA; rw [h0]; rfl
  rw [e]
  rcases Nat.eq_zero_or_pos c.ns.length with hz | hp
  ·exact QX (A := CHQ c) (L := []) (keep := []) (ren := []) (fz := []) S4 (by kernel_rfl) (AD H9 (AD CKG (AD BST (AD zI AI)))) (CVS c h1 h0 hz)
  ·exact QX (A := CTA c) (L := []) (keep := []) (ren := []) (fz := []) S4 (by kernel_rfl) (AD H9 (AD CPM (AD CBB (AD BST (AD zI AI))))) (CWM c h1 h0 ⟨hp, h2 h0⟩)
 ·have h0' : (AJ c == 0) = false := by simpa using h0
  have e : C_few.val c = .tup [.d (CO nilI), .d (ZA nilP), .int (AJ c)] := by
   show AVal.tup [.d (CO (DA c).q), .d (ZA (DA c).r), .int (DA c).e] = _
   unfold DA; rw [h0']; rfl
  rw [e]
  refine QX (A := CFR) (L := []) (keep := []) (ren := []) (fz := []) S4 (by kernel_rfl) (AD yV AI) ?_
  show CMJ c; rw [CNT]; simp only [CC, eq_self, implies_true, forall_const, BH]
  simp [h1, h0, nilI, nilP]) _
def C_Stops : Ctr := { α := Cht, xs := λ c => [.d (YV c)], val := λ c => .tup [.d (CO (DA c).q), .int (DA c).e], keep := λ _ => [], pre := λ c => [(c.ms.length < 4611686018427387904 /\ c.ns.length < 4611686018427387904) /\ (AJ c = 0 -> c.ns.length <= 12)] }
def AOQ : Ann := ann 15 [(BFF, C_few.spec dC1)]
def CDM (c : Cht) : Prop := AW Try.prog AOQ BNE (AK BNE) [.d (YV c)] (AF []) (C_Stops.val c) [] [] []
theorem CFO (c : Cht) : (CDM c) = ((c.p.lo = c.p.lo /\ c.p.hi = c.p.hi /\ c.base = c.base /\ c.scale = c.scale /\ c.off = c.off /\ (AE c.ms.length λ (i : Nat) => gD c.ms i).length = c.ms.length /\ (∀ (i : Nat), i <
 (AE c.ms.length λ (i : Nat) => gD c.ms i).length -> (gD (AE c.ms.length λ (i : Nat) => gD c.ms i) i).pl = (gD c.ms i).pl /\ (gD (AE c.ms.length λ (i : Nat) => gD c.ms i) i).ht = (gD c.ms i).ht) /\ (AE c.ns.length
 λ (i : Nat) => gD c.ns i).length = c.ns.length /\ (∀ (i : Nat), i < (AE c.ns.length λ (i : Nat) => gD c.ns i).length -> (gD (AE c.ns.length λ (i : Nat) => gD c.ns i) i).mi = (gD c.ns i).mi /\ (gD (AE c.ns.length
 λ (i : Nat) => gD c.ns i) i).t.lo = (gD c.ns i).t.lo /\ (gD (AE c.ns.length λ (i : Nat) => gD c.ns i) i).t.hi = (gD c.ns i).t.hi /\ (gD (AE c.ns.length λ (i : Nat) => gD c.ns i) i).s.lo = (gD c.ns i).s.lo /\ (gD
 (AE c.ns.length λ (i : Nat) => gD c.ns i) i).s.hi = (gD c.ns i).s.hi) /\ ((AE c.ms.length λ (i : Nat) => gD c.ms i).length < 4611686018427387904 /\ (AE c.ns.length λ (i : Nat) => gD c.ns i).length <
 4611686018427387904) /\ (AJ (Cht.mk c.p c.base c.scale c.off (AE c.ms.length λ (i : Nat) => gD c.ms i) (AE c.ns.length λ (i : Nat) => gD c.ns i)) = 0 -> (AE c.ns.length λ (i : Nat) => gD c.ns i).length <= 12))
 /\ (DA c).q.length = (DA (Cht.mk c.p c.base c.scale c.off (AE c.ms.length λ (i : Nat) => gD c.ms i) (AE c.ns.length λ (i : Nat) => gD c.ns i))).q.length /\ (∀ (i : Nat), i < (DA c).q.length -> gD (DA c).q i =
 gD (DA (Cht.mk c.p c.base c.scale c.off (AE c.ms.length λ (i : Nat) => gD c.ms i) (AE c.ns.length λ (i : Nat) => gD c.ns i))).q i) /\ (DA c).e = (DA (Cht.mk c.p c.base c.scale c.off (AE c.ms.length λ (i :
 Nat) => gD c.ms i) (AE c.ns.length λ (i : Nat) => gD c.ns i))).e) := by kernel_rfl
theorem BDV : AL Try.prog APQ (C_Stops.spec dC1) := KV C_Stops (λ _ => AOQ) [] [] CGX (λ _ => by kernel_rfl) (λ _ => AD CKN AI) (λ (c : Cht) h => by
 show CDM c; rw [CFO]; simp only [CC, eq_self, implies_true, forall_const, BH]; exact h) (λ _ => MD rfl rfl) _
def C_Pairs : Ctr := { α := Cht, xs := λ c => [.d (YV c)], val := λ c => .tup [.d (ZA (DA c).r), .int (DA c).e], keep := λ _ => [], pre := λ c => [(c.ms.length < 4611686018427387904 /\ c.ns.length < 4611686018427387904) /\ (AJ c = 0 -> c.ns.length <= 12)] }
def CBS (c : Cht) : Prop := AW Try.prog AOQ BMQ (AK BMQ) [.d (YV c)] (AF []) (C_Pairs.val c) [] [] []
theorem CJJ (c : Cht) : (CBS c) = ((c.p.lo = c.p.lo /\ c.p.hi = c.p.hi /\ c.base = c.base /\ c.scale = c.scale /\ c.off = c.off /\ (AE c.ms.length λ (i : Nat) => gD c.ms i).length = c.ms.length /\ (∀ (i : Nat), i <
 (AE c.ms.length λ (i : Nat) => gD c.ms i).length -> (gD (AE c.ms.length λ (i : Nat) => gD c.ms i) i).pl = (gD c.ms i).pl /\ (gD (AE c.ms.length λ (i : Nat) => gD c.ms i) i).ht = (gD c.ms i).ht) /\ (AE c.ns.length
 λ (i : Nat) => gD c.ns i).length = c.ns.length /\ (∀ (i : Nat), i < (AE c.ns.length λ (i : Nat) => gD c.ns i).length -> (gD (AE c.ns.length λ (i : Nat) => gD c.ns i) i).mi = (gD c.ns i).mi /\ (gD (AE c.ns.length
 λ (i : Nat) => gD c.ns i) i).t.lo = (gD c.ns i).t.lo /\ (gD (AE c.ns.length λ (i : Nat) => gD c.ns i) i).t.hi = (gD c.ns i).t.hi /\ (gD (AE c.ns.length λ (i : Nat) => gD c.ns i) i).s.lo = (gD c.ns i).s.lo /\ (gD
 (AE c.ns.length λ (i : Nat) => gD c.ns i) i).s.hi = (gD c.ns i).s.hi) /\ ((AE c.ms.length λ (i : Nat) => gD c.ms i).length < 4611686018427387904 /\ (AE c.ns.length λ (i : Nat) => gD c.ns i).length <
 4611686018427387904) /\ (AJ (Cht.mk c.p c.base c.scale c.off (AE c.ms.length λ (i : Nat) => gD c.ms i) (AE c.ns.length λ (i : Nat) => gD c.ns i)) = 0 -> (AE c.ns.length λ (i : Nat) => gD c.ns i).length <= 12))
 /\ (DA c).r.length = (DA (Cht.mk c.p c.base c.scale c.off (AE c.ms.length λ (i : Nat) => gD c.ms i) (AE c.ns.length λ (i : Nat) => gD c.ns i))).r.length /\ (∀ (i : Nat), i < (DA c).r.length -> (gD (DA c).r
 i).a = (gD (DA (Cht.mk c.p c.base c.scale c.off (AE c.ms.length λ (i : Nat) => gD c.ms i) (AE c.ns.length λ (i : Nat) => gD c.ns i))).r i).a /\ (gD (DA c).r i).b = (gD (DA (Cht.mk c.p c.base c.scale c.off (AE
 c.ms.length λ (i : Nat) => gD c.ms i) (AE c.ns.length λ (i : Nat) => gD c.ns i))).r i).b) /\ (DA c).e = (DA (Cht.mk c.p c.base c.scale c.off (AE c.ms.length λ (i : Nat) => gD c.ms i) (AE c.ns.length λ (i :
 Nat) => gD c.ns i))).e) := by kernel_rfl
theorem CGT : AL Try.prog BOP (C_Pairs.spec dC1) := KV C_Pairs (λ _ => AOQ) [] [] CHR (λ _ => by kernel_rfl) (λ _ => AD CKN AI) (λ (c : Cht) h => by
 show CBS c; rw [CJJ]; simp only [CC, eq_self, implies_true, forall_const, BH]; exact h) (λ _ => MD rfl rfl) _
end Go.Bal
