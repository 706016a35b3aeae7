/- Package chart: the fewest stops. -/
import Derived.Test.YtdbjalgfomknhaaChJ
import Derived.Test.YtdbjalgfomknhaaChS
set_option linter.unusedVariables false
set_option linter.unusedSimpArgs false
namespace Go.Bal
open Go Go.Sym Go.Proofs
def idL (n : Nat) : List Int := AF n λ i => (i : Int)
def BL (c : Cht) : List Int := stM (KF c) (idL c.ns.length)
structure FwS where
 la : Int
 q : List Int
 r : List Pr
 deriving Inhabited
def miA (c : Cht) (a : Int) : Int := (gD c.ns a.toNat).mi
def fwP (c : Cht) (la b a : Int) : Bool := bif decide (miA c a > la) then Ac c ⟨a, b⟩ else false
def fwN (c : Cht) (s : FwS) (b : Int) : Option Int -> FwS
 | none => s
 | some a => ⟨wr (miA c b - 1), s.q ++ [wr (miA c b - 1)], s.r ++ [⟨a, b⟩]⟩
def DE (c : Cht) : Nat -> FwS
 | 0 => ⟨-1, [], []⟩
 | k + 1 => fwN c (DE c k) (gD (BL c) k) (((BL c).take k).find? (fwP c (DE c k).la (gD (BL c) k)))
def sH (c : Cht) : FwS := DE c c.ns.length
def fwW (c : Cht) : Dk := jQ ⟨AH c, (sH c).q⟩
structure FwR where
 q : List Int
 r : List Pr
 e : Int
def nilI : List Int := []
def nilP : List Pr := []
def fwO (c : Cht) : FwR := bif (AZ (fwW c)).2 then ⟨(sH c).q, (sH c).r, 0⟩ else ⟨nilI, nilP, 6⟩
def JX (c : Cht) : FwR := bif AM c == 0 then fwO c else ⟨nilI, nilP, AM c⟩
def C_few : Ctr := { α := Cht, xs := λ c => [.d (XK c)], val := λ c => .tup [.d (BB (JX c).q), .d (Ij (JX c).r), .int (JX c).e], keep := λ _ => [], pre := λ c => [(c.ms.length < 4611686018427387904 /\ c.ns.length < 4611686018427387904) /\ (AM c = 0 -> c.ns.length <= 12)] }
def fwH (c : Cht) : List (Nat × HCell) := [(201, .live (chB c)), (203, .live (dkB (AH c) 204)), (204, .live (dkM (AH c)))]
def fw6S (c : Cht) (k : Nat) : List (Nat × AVal) := [(1, .bptr 201 0), (5, .bptr 203 0), (29, .int c.ns.length), (30, .int k)]
def fwR : List (Nat × Nat) := [(201, 1000), (203, 2016), (204, 2017)]
def fw6n (c : Cht) : Shape := { α := One, dflt := default, T := λ _ => ⟨(7, .d FL) :: fw6S c 0, fwH c⟩, inv := λ _ => True, meas := λ _ => 60, first := fwR }
def fw6o (c : Cht) : Shape := { α := Nat, dflt := 0, T := λ k => ⟨(7, .own 202 1 0 k) :: fw6S c k, fwH c ++ [(202, .live (.row 1 k λ i => EU i))]⟩, inv := λ k => 1 <= k /\ k <= c.ns.length, meas := λ k => 50 - k, again := [(202, 9048)] }
def fwB (c : Cht) : List (Nat × AVal) := [(1, .bptr 201 0), (5, .bptr 203 0), (7, .d (BB (BL c)))]
def fw11 (c : Cht) (z : List Nat) : Shape := { α := One, dflt := default, T := λ _ => ⟨fwB c, fwH c⟩, inv := λ _ => True, meas := λ _ => 0, ffz := z }
def fwT (c : Cht) (k : Nat) : List (Nat × AVal) := fwB c ++ [(11, .int (DE c k).la), (41, .d (BB (BL c))), (42, .int c.ns.length), (43, .int k)]
def fwY (c : Cht) (k : Nat) : List (Nat × HCell) := fwH c ++ [(301, .live (.row 1 (DE c k).q.length λ i => EU (gD (DE c k).q i))), (302, .live (.row 2 (DE c k).r.length λ i => ePr (gD (DE c k).r i)))]
def CXN : List (Nat × AVal) := [(9, .d FL), (10, .d FL)]
def DDM (c : Cht) (k : Nat) : List (Nat × AVal) := [(9, .own 301 1 0 (DE c k).q.length), (10, .own 302 2 0 (DE c k).r.length)]
def DUN (c : Cht) : Shape := { α := Nat, dflt := 0, T := λ k => ⟨CXN ++ fwT c k, fwH c⟩, inv := λ k => k <= c.ns.length /\ (DE c k).q = [], meas := λ k => c.ns.length - k, tag := [0] }
def DVC (c : Cht) : Shape := { α := Nat, dflt := 0, T := λ k => ⟨DDM c k ++ fwT c k, fwY c k⟩, inv := λ k => k <= c.ns.length /\ 1 <= (DE c k).q.length, meas := λ k => c.ns.length - k, tag := [1] }
def fwJ (c : Cht) (k j : Nat) : List (Nat × AVal) := [(13, .int (gD (BL c) k)), (50, .d (BB ((BL c).take k))), (51, .int k), (52, .int j)]
def DTW (c : Cht) (m : Nat) : Shape := { α := IJ, dflt := default, T := λ s => ⟨fwJ c s.i s.j ++ (CXN ++ fwT c s.i), fwH c⟩, inv := λ s => (s.i < c.ns.length /\ c.ns.length - s.i = m /\ s.j <= s.i /\ ∀ t, t < s.j -> fwP c (DE c s.i).la (gD (BL c) s.i) (gD (BL c) t) = false) /\ (DE c s.i).q = [], meas := λ s => c.ns.length - s.j }
def DSJ (c : Cht) (m : Nat) : Shape := { α := IJ, dflt := default, T := λ s => ⟨fwJ c s.i s.j ++ (DDM c s.i ++ fwT c s.i), fwY c s.i⟩, inv := λ s => (s.i < c.ns.length /\ c.ns.length - s.i = m /\ s.j <= s.i /\ ∀ t, t < s.j -> fwP c (DE c s.i).la (gD (BL c) s.i) (gD (BL c) t) = false) /\ 1 <= (DE c s.i).q.length, meas := λ s => c.ns.length - s.j }
def fwT2 (c : Cht) (k : Nat) : List (Nat × AVal) := fwB c ++ [(11, .int (DE c (k + 1)).la), (41, .d (BB (BL c))), (42, .int c.ns.length), (43, .int k)]
def DTZ (c : Cht) (m : Nat) : Shape := { α := Nat, dflt := 0, T := λ k => ⟨CXN ++ fwT2 c k, fwH c⟩, inv := λ k => k < c.ns.length /\ c.ns.length - k = m /\ (DE c (k + 1)).q = [], meas := λ _ => 0 }
def DFX (c : Cht) (m : Nat) (f : List (Nat × Nat)) : Shape := { α := Nat, dflt := 0, T := λ k => ⟨DDM c (k + 1) ++ fwT2 c k, fwY c (k + 1)⟩, inv := λ k => k < c.ns.length /\ c.ns.length - k = m /\ 1 <= (DE c (k + 1)).q.length, meas := λ _ => 0, first := f }
def fw26 (c : Cht) (z : List Nat) : Shape := { α := One, dflt := default, T := λ _ => ⟨[(5, .bptr 203 0), (9, .d (BB (sH c).q)), (10, .d (Ij (sH c).r))], [(203, .live (dkB (AH c) 204)), (204, .live (dkM (AH c)))]⟩, inv := λ _ => True, meas := λ _ => 0, ffz := z }
def fw10 (c : Cht) : Shape := { α := One, dflt := default, T := λ _ => ⟨[(1, .bptr 201 0), (5, .bptr 203 0), (7, .own 202 1 0 c.ns.length)], fwH c ++ [(202, .live (.row 1 c.ns.length λ i => EU i))]⟩, inv := λ _ => 1 <= c.ns.length, meas := λ _ => 0 }
def DOJ (c : Cht) : Ann := { ann 101 [(HW, C_open.spec dC1), (AJB, C_sort.spec dGLt), (COB, C_late.spec dDkP), (BSP, C_stop.spec dDkZ), (Ap, C_times.spec Dh)] with mt := λ id => id == 8 || id == 23, loops := λ id => if id = 6 then some [fw6n c, fw6o c] else if id = 15 then some [DUN c, DVC c] else none, inner := λ gs id => if id = 18 then (if gs.getD 1 0 = 0 then some [DTW c (gs.getD 0 0)] else some [DSJ c (gs.getD 0 0)]) else none, cut := λ id => if id = 10 then some [fw10 c] else if id = 11 then some [fw11 c [202]] else if id = 26 then some [fw26 c [], fw26 c [301, 302]] else none, cutIn := λ gs id => if id = 25 then (if gs.getD 1 0 = 0 then some [DTZ c (gs.getD 0 0), DFX c (gs.getD 0 0) [(301, 24048), (302, 24112)]] else some [DFX c (gs.getD 0 0) [(301, 24048), (302, 24112)], DFX c (gs.getD 0 0) []]) else none }
def DPI (c : Cht) : Prop := BA Try.prog (DOJ c) XQ (AL XQ) [.d (XK c)] (AG []) (.tup [.d (BB (fwO c).q), .d (Ij (fwO c).r), .int (fwO c).e]) [] [] []
abbrev BLJ (c : Cht) : List Mk := AF c.ms.length λ (i : Nat) => gD c.ms i
abbrev ACV (c : Cht) : Nat := (BLJ c).length
abbrev CMN (c : Cht) : Prop := ACV c = c.ms.length
abbrev CPL (c : Cht) (i : Nat) : Mk := gD (BLJ c) i
abbrev CKF (c : Cht) (i : Nat) : Int := (CPL c i).pl
abbrev CFD (c : Cht) (i : Nat) : Int := (CPL c i).ht
abbrev CIH (c : Cht) : Prop := ∀ (i : Nat), i < ACV c -> CKF c i = (gD c.ms i).pl /\ CFD c i = (gD c.ms i).ht
abbrev BJS (c : Cht) : List Nt := AF c.ns.length λ (i : Nat) => gD c.ns i
abbrev qG (c : Cht) : Nat := (BJS c).length
abbrev CJG (c : Cht) : Prop := qG c = c.ns.length
abbrev AHU (c : Cht) (i : Nat) : Nt := gD (BJS c) i
abbrev BOL (c : Cht) (i : Nat) : Int := (AHU c i).mi
abbrev BUZ (c : Cht) (i : Nat) : Span := (AHU c i).t
abbrev BZL (c : Cht) (i : Nat) : Int := (BUZ c i).lo
abbrev BRI (c : Cht) (i : Nat) : Int := (BUZ c i).hi
abbrev BRZ (c : Cht) (i : Nat) : Span := (AHU c i).s
abbrev BRQ (c : Cht) (i : Nat) : Int := (BRZ c i).lo
abbrev BWM (c : Cht) (i : Nat) : Int := (BRZ c i).hi
abbrev BRS (c : Cht) : Prop := ∀ (i : Nat), i < qG c -> BOL c i = (gD c.ns i).mi /\ BZL c i = (gD c.ns i).t.lo /\ BRI c i = (gD c.ns i).t.hi /\ BRQ c i = (gD c.ns i).s.lo /\ BWM c i = (gD
 c.ns i).s.hi
abbrev AIM (c : Cht) : Cht := Cht.mk c.p c.base c.scale c.off (BLJ c) (BJS c)
abbrev BK : Prop := (0 : Nat) = (0 : Nat)
abbrev HV : Prop := ∀ (i : Nat), i < (0 : Nat) -> false = false
abbrev FU (c : Cht) : Prop := (↑c.ns.length : Int) = (↑c.ns.length : Int)
abbrev HR (c : Cht) : Prop := c.ms.length = c.ms.length
abbrev HX (c : Cht) : Prop := ∀ (i : Nat), i < c.ms.length -> (gD c.ms i).pl = (gD c.ms i).pl /\ (gD c.ms i).ht = (gD c.ms i).ht
abbrev HS (c : Cht) : Prop := c.ns.length = c.ns.length
abbrev HY (c : Cht) : Prop := ∀ (i : Nat), i < c.ns.length -> (gD c.ns i).mi = (gD c.ns i).mi /\ (gD c.ns i).t.lo = (gD c.ns i).t.lo /\ (gD c.ns i).t.hi = (gD c.ns i).t.hi /\ (gD c.ns i).s.lo = (gD c.ns i).s.lo /\ (gD
 c.ns i).s.hi = (gD c.ns i).s.hi
abbrev BMF (c : Cht) : Dk := AH (AIM c)
abbrev XG (c : Cht) : Cht := (BMF c).c
abbrev CCC (c : Cht) : Span := (XG c).p
abbrev BTS (c : Cht) : List Mk := (XG c).ms
abbrev AFY (i : Nat) (c : Cht) : Prop := i < (AH c).c.ms.length
abbrev BTF (c : Cht) (i : Nat) : Mk := gD (BTS c) i
abbrev dK (c : Cht) : List Nt := (XG c).ns
abbrev AJY (i : Nat) (c : Cht) : Prop := i < (AH c).c.ns.length
abbrev AAF (c : Cht) (i : Nat) : Nt := gD (dK c) i
abbrev Ea (c : Cht) (i : Nat) : Int := (gD (AH c).c.ns i).t.lo
abbrev CAX (c : Cht) (i : Nat) : Span := (AAF c i).t
abbrev Gd (c : Cht) (i : Nat) : Int := (gD (AH c).c.ns i).t.hi
abbrev Gv (c : Cht) (i : Nat) : Int := (gD (AH c).c.ns i).s.lo
abbrev CAC (c : Cht) (i : Nat) : Span := (AAF c i).s
abbrev Hl (c : Cht) (i : Nat) : Int := (gD (AH c).c.ns i).s.hi
abbrev FH : Prop := ∀ (i : Nat), i < (40 : Nat) -> false = false
abbrev AII (c : Cht) (n : Int) : Nt := ntOf (dK c) n
abbrev BPZ (c : Cht) (n : Int) : Span := (AII c n).t
abbrev BSK (c : Cht) (n : Int) : Span := (AII c n).s
abbrev CBX : Prop := (0 : Nat) < (0 : Nat)
abbrev BYI : Prop := (1 : Nat) <= (1 : Nat)
abbrev bM : Prop := (0 : Nat) < (1 : Nat)
abbrev AEY : Prop := (1 : Nat) = (1 : Nat)
abbrev AJZ : Prop := BYI /\ (bM -> AEY)
abbrev CAV : Prop := true = true -> bM
abbrev BMP : Prop := (1 : Nat) <= (9223372036854775807 : Nat)
abbrev BWS : Prop := (True /\ (CBX -> (0 : Nat) = (1 : Nat))) /\ AJZ /\ CAV /\ BMP /\ (8 : Nat) <= (140737488355328 : Nat)
abbrev GJ (c : Cht) : Prop := (AH c).c.p.lo = (AH c).c.p.lo
abbrev FS (c : Cht) : Prop := (AH c).c.p.hi = (AH c).c.p.hi
abbrev FY (c : Cht) : Prop := (AH c).c.base = (AH c).c.base
abbrev GF (c : Cht) : Prop := (AH c).c.scale = (AH c).c.scale
abbrev FW (c : Cht) : Prop := (AH c).c.off = (AH c).c.off
abbrev JD (c : Cht) : Prop := (AH c).c.ms.length = (AH c).c.ms.length
abbrev IM (c : Cht) : Prop := ∀ (i : Nat), AFY i c -> (gD (AH c).c.ms i).pl = (gD (AH c).c.ms i).pl /\ (gD (AH c).c.ms i).ht = (gD (AH c).c.ms i).ht
abbrev IG (c : Cht) : Prop := (AH c).c.ns.length = (AH c).c.ns.length
abbrev IX (c : Cht) : Prop := ∀ (i : Nat), AJY i c -> (gD (AH c).c.ns i).mi = (gD (AH c).c.ns i).mi /\ Ea c i = Ea c i /\ Gd c i = Gd c i /\ Gv c i = Gv c i /\ Hl c i =
 Hl c i
abbrev IF (c : Cht) : Prop := ∀ (n : Int), hasN (AH c).c.ns n = hasN (AH c).c.ns n
abbrev ER (c : Cht) : Prop := ∀ (n : Int), (AH c).st n = (AH c).st n
abbrev IR (c : Cht) : Prop := ∀ (n : Int), (ntOf (AH c).c.ns n).mi = (ntOf (AH c).c.ns n).mi /\ (ntOf (AH c).c.ns n).t.lo = (ntOf (AH c).c.ns n).t.lo /\ (ntOf (AH c).c.ns n).t.hi = (ntOf (AH c).c.ns
 n).t.hi /\ (ntOf (AH c).c.ns n).s.lo = (ntOf (AH c).c.ns n).s.lo /\ (ntOf (AH c).c.ns n).s.hi = (ntOf (AH c).c.ns n).s.hi
abbrev ABR (a : Nat) (c : Cht) : Prop := (1 : Nat) <= a /\ a <= c.ns.length
abbrev AHJ (a : Nat) : Nat := (50 : Nat) - a
abbrev AHQ (a : Nat) (c : Cht) : Bool := decide ((↑a : Int) < (↑c.ns.length : Int))
abbrev AGJ : Prop := false = true -> bM
abbrev Qx (a : Nat) : Nat := a + (1 : Nat)
abbrev BVP (a : Nat) (a1 : Nat) : Prop := a = Qx a1
abbrev ACL (a : Nat) (a1 : Nat) : Prop := (↑a : Int) = IntKind.i64.wrap ((↑a1 : Int) + (1 : Int))
abbrev BMT (c : Cht) : Prop := Nat.le (1 : Nat) c.ns.length
abbrev AJW (c : Cht) : List Int := AF c.ns.length λ (i : Nat) => (↑i : Int)
abbrev Gf (c : Cht) : Nat := (AJW c).length
abbrev BQX (c : Cht) : Prop := Gf c = c.ns.length
abbrev BUL (i : Nat) (c : Cht) : Prop := i < Gf c
abbrev AFJ (c : Cht) (i : Nat) : Int := gD (AJW c) i
abbrev AIU (j : Nat) : Nat := (0 : Nat) + j
abbrev AFR (c : Cht) : Prop := GJ c /\ FS c /\ FY c /\ GF c /\ FW c /\ JD c /\ IM c /\ IG c /\ IX c /\ FH /\ AO = AO /\ IF c /\ ER c /\ IR c
abbrev XP (c : Cht) : Prop := c.p.lo = c.p.lo /\ c.p.hi = c.p.hi /\ c.base = c.base /\ c.scale = c.scale /\ c.off = c.off /\ HR c /\ HX c /\ HS c /\ HY c /\ AFR c
abbrev CA (c : Cht) : Prop := (BL c).length = (BL c).length
abbrev BZ (c : Cht) : Prop := ∀ (i : Nat), i < (BL c).length -> gD (BL c) i = gD (BL c) i
abbrev AFX (a : Nat) (c : Cht) : Prop := a <= c.ns.length /\ (DE c a).q = []
abbrev BYX (a : Nat) : Prop := (0 : Int) <= (↑a : Int)
abbrev BXO (a : Nat) (c : Cht) : Prop := BYX a /\ (↑a : Int) < (↑(BL c).length : Int)
abbrev BWG (a : Nat) (c : Cht) : Prop := (0 : Int) <= (0 : Int) /\ BYX a /\ (↑a : Int) <= (↑(BL c).length : Int)
abbrev BVE (c : Cht) (a : IJ) (a1 : Nat) : Prop := gD (BL c) a.i = gD (BL c) a1
abbrev BNA (a : Nat) : Nat := a - Int.toNat (0 : Int)
abbrev BUD (a : IJ) (c : Cht) (a1 : Nat) : Prop := (List.take a.i (BL c)).length = BNA a1
abbrev BZV (i : Nat) (a : IJ) (c : Cht) : Prop := i < (List.take a.i (BL c)).length
abbrev AJJ (a : IJ) (c : Cht) (i : Nat) : Int := gD (List.take a.i (BL c)) i
abbrev BYO (a : IJ) (c : Cht) : Prop := ∀ (i : Nat), BZV i a c -> AJJ a c i = gD (BL c) (Int.toNat (0 : Int) + i)
abbrev BOP (a : IJ) (a1 : Nat) : Prop := (↑a.i : Int) = (↑(BNA a1) : Int)
abbrev BPE (a : IJ) : Prop := (↑a.j : Int) = (0 : Int)
abbrev BOG (c : Cht) (a : IJ) (a1 : Nat) : Prop := (DE c a.i).la = (DE c a1).la
abbrev BZB (a : IJ) (a1 : Nat) : Prop := (↑a.i : Int) = (↑a1 : Int)
abbrev Dx (c : Cht) (a : Nat) : Nat := c.ns.length - a
abbrev BNJ (a : IJ) (c : Cht) (a1 : Nat) : Prop := a.i < c.ns.length /\ c.ns.length - a.i = Dx c a1 /\ a.j <= a.i /\ ∀ (t : Nat), t < a.j -> fwP c (DE c a.i).la (gD (BL c) a.i) (gD (BL c) t) = false
abbrev kX (a : IJ) (c : Cht) (a1 : Nat) : Prop := BNJ a c a1 /\ (DE c a.i).q = []
abbrev AOS (a : IJ) : Bool := decide ((↑a.j : Int) < (↑a.i : Int))
abbrev ANX (a : IJ) (c : Cht) : Prop := (0 : Int) <= (↑a.j : Int) /\ (↑a.j : Int) < (↑(List.take a.i (BL c)).length : Int)
abbrev LI (a : IJ) (c : Cht) : Int := gD (List.take a.i (BL c)) a.j
abbrev AYT (c : Cht) (a : IJ) : Bool := decide ((gD c.ns (LI a c).toNat).mi > (DE c a.i).la)
abbrev jU (a : IJ) (c : Cht) : Pr := dPr (DVal.agg [EU (LI a c), DVal.v (Value.int IntKind.i64 (gD (BL c) a.i))])
abbrev rL (a : IJ) (c : Cht) : Int := (jU a c).a
abbrev mI (a : IJ) (c : Cht) : Int := (jU a c).b
abbrev iR (c : Cht) : List Mk := AF (AH c).c.ms.length λ (i : Nat) => gD (AH c).c.ms i
abbrev SU (c : Cht) : Nat := (iR c).length
abbrev BBL (c : Cht) : Prop := SU c = (AH c).c.ms.length
abbrev AQW (c : Cht) (i : Nat) : Mk := gD (iR c) i
abbrev AYD (c : Cht) (i : Nat) : Int := (AQW c i).pl
abbrev BDJ (c : Cht) (i : Nat) : Int := (AQW c i).ht
abbrev AKD (c : Cht) : Prop := ∀ (i : Nat), i < SU c -> AYD c i = (gD (AH c).c.ms i).pl /\ BDJ c i = (gD (AH c).c.ms i).ht
abbrev SX (c : Cht) : List Nt := AF (AH c).c.ns.length λ (i : Nat) => gD (AH c).c.ns i
abbrev NT (c : Cht) : Nat := (SX c).length
abbrev ARW (c : Cht) : Prop := NT c = (AH c).c.ns.length
abbrev AOF (i : Nat) (c : Cht) : Prop := i < NT c
abbrev oU (c : Cht) (i : Nat) : Nt := gD (SX c) i
abbrev Fw (c : Cht) (i : Nat) : Int := (oU c i).mi
abbrev AVI (c : Cht) (i : Nat) : Span := (oU c i).t
abbrev BEG (c : Cht) (i : Nat) : Int := (AVI c i).lo
abbrev ANG (c : Cht) (i : Nat) : Int := (AVI c i).hi
abbrev ANT (c : Cht) (i : Nat) : Span := (oU c i).s
abbrev BAS (c : Cht) (i : Nat) : Int := (ANT c i).lo
abbrev AUP (c : Cht) (i : Nat) : Int := (ANT c i).hi
abbrev BDN (c : Cht) : Prop := ∀ (i : Nat), AOF i c -> Fw c i = (gD (AH c).c.ns i).mi /\ BEG c i = Ea c i /\ ANG c i = Gd c i /\ BAS c i = Gv c i /\ AUP c i =
 Hl c i
abbrev AVJ (c : Cht) (n : Int) : Bool := hasN (SX c) n
abbrev ATP (c : Cht) : Prop := ∀ (n : Int), AVJ c n = hasN (AH c).c.ns n
abbrev jB (c : Cht) (n : Int) : Nt := ntOf (SX c) n
abbrev BDK (c : Cht) (n : Int) : Int := (jB c n).mi
abbrev ATW (c : Cht) (n : Int) : Span := (jB c n).t
abbrev AWT (c : Cht) (n : Int) : Int := (ATW c n).lo
abbrev AOV (c : Cht) (n : Int) : Int := (ATW c n).hi
abbrev AKE (c : Cht) (n : Int) : Span := (jB c n).s
abbrev AUM (c : Cht) (n : Int) : Int := (AKE c n).lo
abbrev ANI (c : Cht) (n : Int) : Int := (AKE c n).hi
abbrev AQP (c : Cht) : Prop := ∀ (n : Int), BDK c n = (ntOf (AH c).c.ns n).mi /\ AWT c n = (ntOf (AH c).c.ns n).t.lo /\ AOV c n = (ntOf (AH c).c.ns n).t.hi /\ AUM c n = (ntOf (AH
 c).c.ns n).s.lo /\ ANI c n = (ntOf (AH c).c.ns n).s.hi
abbrev AVT (c : Cht) : Prop := SU c <= (40 : Nat)
abbrev AXY (a : IJ) (c : Cht) : Prop := ((0 : Int) <= LI a c /\ LI a c < (↑c.ns.length : Int)) /\ (AYT c a = true -> rL a c = LI a c /\ mI a c = gD (BL c) a.i /\ GJ c /\
 FS c /\ FY c /\ GF c /\ FW c /\ BBL c /\ AKD c /\ ARW c /\ BDN c /\ FH /\ AO = AO /\ ATP c /\ ER c /\ AQP c /\ GJ c /\ FS c /\ FY c /\ GF
 c /\ FW c /\ (AH c).c.ms.length = SU c /\ (∀ (i : Nat), AFY i c -> (gD (AH c).c.ms i).pl = AYD c i /\ (gD (AH c).c.ms i).ht = BDJ c i) /\ (AH c).c.ns.length = NT c /\ (∀ (i : Nat),
 AJY i c -> (gD (AH c).c.ns i).mi = Fw c i /\ Ea c i = BEG c i /\ Gd c i = ANG c i /\ Gv c i = BAS c i /\ Hl c i = AUP c i) /\ FH /\ AO = AO /\ (∀ (n : Int),
 hasN (AH c).c.ns n = AVJ c n) /\ ER c /\ (∀ (n : Int), (ntOf (AH c).c.ns n).mi = BDK c n /\ (ntOf (AH c).c.ns n).t.lo = AWT c n /\ (ntOf (AH c).c.ns n).t.hi = AOV c n /\ (ntOf (AH
 c).c.ns n).s.lo = AUM c n /\ (ntOf (AH c).c.ns n).s.hi = ANI c n) /\ (((0 : Int) <= rL a c /\ rL a c < (↑(NT c) : Int)) /\ (0 : Int) <= mI a c /\ mI a c < (↑(NT c) : Int))
 /\ (AVT c /\ NT c <= (20 : Nat)) /\ ∀ (i : Nat), AOF i c -> (0 : Int) <= Fw c i /\ Fw c i < (↑(SU c) : Int))
abbrev BAV (c : Cht) : Cht := Cht.mk (AH c).c.p (AH c).c.base (AH c).c.scale (AH c).c.off (iR c) (SX c)
abbrev AQR (c : Cht) (a : IJ) : Bool := bif AYT c a then Ac (BAV c) (jU a c) else false
abbrev ATO (c : Cht) (a : IJ) : Prop := (0 : Int) <= gD (BL c) a.i /\ gD (BL c) a.i < (↑c.ns.length : Int)
abbrev BFG : Prop := (2 : Nat) = (2 : Nat)
abbrev BDF : Prop := BYI /\ (bM -> BFG)
abbrev nF (c : Cht) (a : Nat) : FwS := DE c (Qx a)
abbrev fQ (c : Cht) (a : Nat) : List Int := (nF c a).q
abbrev OY (c : Cht) (a : Nat) : Nat := (fQ c a).length
abbrev ALS (c : Cht) (a : Nat) : Prop := OY c a = (1 : Nat)
abbrev ARI (c : Cht) (a : Nat) : List Pr := (nF c a).r
abbrev VC (c : Cht) (a : Nat) : Nat := (ARI c a).length
abbrev AQY (c : Cht) (a : Nat) : Prop := VC c a = (1 : Nat)
abbrev gF (c : Cht) (a : Nat) : Int := (nF c a).la
abbrev lU (c : Cht) (a : IJ) : Int := IntKind.i64.wrap ((gD c.ns (gD (BL c) a.i).toNat).mi - (1 : Int))
abbrev ANK (c : Cht) (a : Nat) (a1 : IJ) : Prop := gF c a = lU c a1
abbrev Fa (a : Nat) (a1 : IJ) : Prop := (↑a : Int) = (↑a1.i : Int)
abbrev gZ (i : Nat) (c : Cht) (a : Nat) : Prop := i < OY c a
abbrev Ex (c : Cht) (a : Nat) (i : Nat) : Int := gD (fQ c a) i
abbrev mF (i : Nat) (c : Cht) (a : Nat) : Prop := i < VC c a
abbrev BBJ (c : Cht) (a : Nat) (i : Nat) : Pr := gD (ARI c a) i
abbrev Hx (c : Cht) (a : Nat) (i : Nat) : Int := (BBJ c a i).a
abbrev Jb (c : Cht) (a : Nat) (i : Nat) : Int := (BBJ c a i).b
abbrev BGX (c : Cht) (a : Nat) (a1 : Nat) : Prop := Dx c a = Dx c a1
abbrev Fp (a : Nat) (c : Cht) (a1 : Nat) : Prop := a < c.ns.length /\ BGX c a a1 /\ (1 : Nat) <= OY c a
abbrev AVK (c : Cht) (a : IJ) (a1 : IJ) : Prop := gD (BL c) a.i = gD (BL c) a1.i
abbrev AZG (a : IJ) (c : Cht) (a1 : IJ) : Prop := (List.take a.i (BL c)).length = (List.take a1.i (BL c)).length
abbrev ALL (a : IJ) (c : Cht) (a1 : IJ) : Prop := ∀ (i : Nat), BZV i a c -> AJJ a c i = AJJ a1 c i
abbrev Ek (a : IJ) (a1 : IJ) : Prop := (↑a.i : Int) = (↑a1.i : Int)
abbrev AVR (a : IJ) (a1 : IJ) : Prop := (↑a.j : Int) = IntKind.i64.wrap ((↑a1.j : Int) + (1 : Int))
abbrev BCR (c : Cht) (a : IJ) (a1 : IJ) : Prop := (DE c a.i).la = (DE c a1.i).la
abbrev AYV (c : Cht) (a : IJ) : Nat := c.ns.length - a.j
abbrev BDA (c : Cht) (a : IJ) (a1 : IJ) : Prop := AYV c a < AYV c a1
abbrev ALW (c : Cht) (a : Nat) (a1 : IJ) : Prop := gF c a = (DE c a1.i).la
abbrev AMN (a : Nat) (c : Cht) (a1 : Nat) : Prop := a < c.ns.length /\ BGX c a a1 /\ fQ c a = []
abbrev AZO (c : Cht) (a : Nat) (a1 : Nat) : Prop := (DE c a).la = gF c a1
abbrev AOA (c : Cht) (a : Nat) (a1 : Nat) : Prop := Dx c a < Dx c a1
abbrev AQX (c : Cht) (a : Nat) (a1 : Nat) : Prop := (DE c a).q.length = OY c a1
abbrev AWY (c : Cht) (a : Nat) (a1 : Nat) : Prop := (DE c a).r.length = VC c a1
abbrev AWP (a : Nat) (c : Cht) : Prop := a <= c.ns.length /\ (1 : Nat) <= (DE c a).q.length
abbrev fL (c : Cht) (a : Nat) : Prop := ∀ (a_1 : Nat), Fp a_1 c a -> ∃ (a_3 : Nat), (BK /\ AQX c a_3 a_1 /\ BK /\ AWY c a_3 a_1 /\ CA c /\ BZ c /\ AZO c a_3 a_1 /\ CA
 c /\ BZ c /\ FU c /\ ACL a_3 a_1 /\ c.p.lo = c.p.lo /\ c.p.hi = c.p.hi /\ c.base = c.base /\ c.scale = c.scale /\ c.off = c.off /\ HR c /\ HX c /\ HS c /\ HY c /\ GJ c /\ FS c /\
 FY c /\ GF c /\ FW c /\ JD c /\ IM c /\ IG c /\ IX c /\ FH /\ AO = AO /\ IF c /\ ER c /\ IR c /\ AQX c a_3 a_1 /\ (∀ (i : Nat), i < (DE c a_3).q.length -> gD
 (DE c a_3).q i = Ex c a_1 i) /\ AWY c a_3 a_1 /\ ∀ (i : Nat), i < (DE c a_3).r.length -> (gD (DE c a_3).r i).a = Hx c a_1 i /\ (gD (DE c a_3).r i).b = Jb c a_1 i) /\ AWP a_3 c /\ AOA
 c a_3 a
abbrev BEZ (c : Cht) : Prop := (sH c).q.length = (0 : Nat)
abbrev BFN (c : Cht) : Prop := (sH c).r.length = (0 : Nat)
abbrev BEB (c : Cht) (a : IJ) (a1 : Nat) : Prop := (DE c a.i).q.length = (DE c a1).q.length
abbrev AXE (c : Cht) (a : IJ) (a1 : Nat) : Prop := (DE c a.i).r.length = (DE c a1).r.length
abbrev jV (i : Nat) (c : Cht) (a : IJ) : Prop := i < (DE c a.i).q.length
abbrev fI (i : Nat) (c : Cht) (a : IJ) : Prop := i < (DE c a.i).r.length
abbrev UA (c : Cht) (a : IJ) (i : Nat) : Int := (gD (DE c a.i).r i).a
abbrev VH (c : Cht) (a : IJ) (i : Nat) : Int := (gD (DE c a.i).r i).b
abbrev fU (a : IJ) (c : Cht) (a1 : Nat) : Prop := BNJ a c a1 /\ (1 : Nat) <= (DE c a.i).q.length
abbrev oI (c : Cht) (a : IJ) : Nat := (DE c a.i).q.length + (1 : Nat)
abbrev eY (c : Cht) (a : IJ) : Nat := (DE c a.i).r.length + (1 : Nat)
abbrev AXF (c : Cht) (a : Nat) (a1 : IJ) : Prop := OY c a = oI c a1
abbrev AUO (c : Cht) (a : Nat) (a1 : IJ) : Prop := VC c a = eY c a1
abbrev ASS (i : Nat) (c : Cht) (a : IJ) : Bool := decide (fI i c a)
abbrev ARM (c : Cht) (a : IJ) (a1 : IJ) : Prop := (DE c a.i).q.length = (DE c a1.i).q.length
abbrev ATU (c : Cht) (a : IJ) (a1 : IJ) : Prop := (DE c a.i).r.length = (DE c a1.i).r.length
abbrev BCW (c : Cht) (a : Nat) (a1 : IJ) : Prop := OY c a = (DE c a1.i).q.length
abbrev BCP (c : Cht) (a : Nat) (a1 : IJ) : Prop := VC c a = (DE c a1.i).r.length
abbrev ARJ (c : Cht) (a : Nat) (j : Nat) : Pr := gD (DE c a).r (AIU j)
abbrev fD (c : Cht) : List Int := AF (sH c).q.length λ (i : Nat) => gD (sH c).q i
abbrev rD (c : Cht) : Nat := (fD c).length
abbrev Hm (c : Cht) : Dk := jQ (DkZ.mk (Dk.mk (BAV c) (AH c).st (AH c).sp) (fD c))
abbrev MP (c : Cht) : Cht := (Hm c).c
abbrev Io (c : Cht) : List Nt := (MP c).ns
abbrev oZ (c : Cht) (n : Int) : Nt := ntOf (Io c) n
abbrev APE (c : Cht) (n : Int) : Span := (oZ c n).t
abbrev BDE (c : Cht) (n : Int) : Span := (oZ c n).s
abbrev lM (c : Cht) : Span := (MP c).p
abbrev ATA (c : Cht) : Int := (lM c).lo
abbrev AMX (c : Cht) : Prop := ATA c = ATA c
abbrev BBA (c : Cht) : Int := (lM c).hi
abbrev AXZ (c : Cht) : Prop := BBA c = BBA c
abbrev iZ (c : Cht) : Int := (MP c).base
abbrev ASP (c : Cht) : Prop := iZ c = iZ c
abbrev lN (c : Cht) : Int := (MP c).scale
abbrev ARC (c : Cht) : Prop := lN c = lN c
abbrev iQ (c : Cht) : Int := (MP c).off
abbrev ARX (c : Cht) : Prop := iQ c = iQ c
abbrev BDW (c : Cht) : List Mk := (MP c).ms
abbrev Gi (c : Cht) : Nat := (BDW c).length
abbrev gV (c : Cht) (i : Nat) : Mk := gD (BDW c) i
abbrev jG (c : Cht) : List Mk := AF (Gi c) λ (i : Nat) => gV c i
abbrev NN (c : Cht) : Nat := (jG c).length
abbrev BGJ (c : Cht) (i : Nat) : Mk := gD (jG c) i
abbrev ATG (c : Cht) (i : Nat) : Int := (BGJ c i).pl
abbrev AWO (c : Cht) (i : Nat) : Int := (gV c i).pl
abbrev AZV (c : Cht) (i : Nat) : Int := (BGJ c i).ht
abbrev BED (c : Cht) (i : Nat) : Int := (gV c i).ht
abbrev Fs (c : Cht) : Nat := (Io c).length
abbrev Ii (c : Cht) (i : Nat) : Nt := gD (Io c) i
abbrev UC (c : Cht) : List Nt := AF (Fs c) λ (i : Nat) => Ii c i
abbrev jP (c : Cht) : Nat := (UC c).length
abbrev mK (c : Cht) (i : Nat) : Nt := gD (UC c) i
abbrev BGE (c : Cht) (i : Nat) : Int := (mK c i).mi
abbrev AME (c : Cht) (i : Nat) : Int := (Ii c i).mi
abbrev AUX (c : Cht) (i : Nat) : Span := (mK c i).t
abbrev BBM (c : Cht) (i : Nat) : Int := (AUX c i).lo
abbrev ART (c : Cht) (i : Nat) : Span := (Ii c i).t
abbrev BFQ (c : Cht) (i : Nat) : Int := (ART c i).lo
abbrev BFD (c : Cht) (i : Nat) : Int := (AUX c i).hi
abbrev AOI (c : Cht) (i : Nat) : Int := (ART c i).hi
abbrev AOM (c : Cht) (i : Nat) : Span := (mK c i).s
abbrev AVL (c : Cht) (i : Nat) : Int := (AOM c i).lo
abbrev BFL (c : Cht) (i : Nat) : Span := (Ii c i).s
abbrev BFO (c : Cht) (i : Nat) : Int := (BFL c i).lo
abbrev AKJ (c : Cht) (i : Nat) : Int := (AOM c i).hi
abbrev BAX (c : Cht) (i : Nat) : Int := (BFL c i).hi
abbrev AMD (c : Cht) (i : Nat) : Bool := (Hm c).sp i
abbrev AOK (c : Cht) : Prop := ∀ (i : Nat), i < (40 : Nat) -> AMD c i = AMD c i
abbrev gG (c : Cht) (n : Int) : Bool := hasN (UC c) n
abbrev qQ (c : Cht) (n : Int) : Nt := ntOf (UC c) n
abbrev ASY (c : Cht) (n : Int) : Int := (qQ c n).mi
abbrev AUG (c : Cht) (n : Int) : Span := (qQ c n).t
abbrev BEP (c : Cht) (n : Int) : Int := (AUG c n).lo
abbrev BDG (c : Cht) (n : Int) : Int := (AUG c n).hi
abbrev AOL (c : Cht) (n : Int) : Span := (qQ c n).s
abbrev AMT (c : Cht) (n : Int) : Int := (AOL c n).lo
abbrev AUK (c : Cht) (n : Int) : Int := (AOL c n).hi
abbrev BCE (c : Cht) : Prop := (fwO c).q.length = (0 : Nat)
abbrev BCK (c : Cht) : Prop := (fwO c).r.length = (0 : Nat)
abbrev AXH (c : Cht) : Prop := ∀ (a : One), True -> (rD c = (sH c).q.length /\ (∀ (i : Nat), i < rD c -> gD (fD c) i = gD (sH c).q i) /\ GJ c /\ FS c /\ FY c /\ GF c /\
 FW c /\ BBL c /\ AKD c /\ ARW c /\ BDN c /\ FH /\ AO = AO /\ ATP c /\ ER c /\ AQP c /\ AO = AO /\ (∀ (n : Int), hasN (AH c).c.ns n = hasN (Io c) n) /\ (∀ (n : Int),
 (AH c).st n = (Hm c).st n) /\ (∀ (n : Int), (ntOf (AH c).c.ns n).mi = (oZ c n).mi /\ (ntOf (AH c).c.ns n).t.lo = (APE c n).lo /\ (ntOf (AH c).c.ns n).t.hi = (APE c n).hi /\ (ntOf (AH
 c).c.ns n).s.lo = (BDE c n).lo /\ (ntOf (AH c).c.ns n).s.hi = (BDE c n).hi) /\ rD c < (4611686018427387904 : Nat) /\ AVT c) /\ (AMX c /\ AXZ c /\ ASP c /\ ARC c /\ ARX c /\
 NN c = Gi c /\ (∀ (i : Nat), i < NN c -> ATG c i = AWO c i /\ AZV c i = BED c i) /\ jP c = Fs c /\ (∀ (i : Nat), i < jP c -> BGE c i = AME c i /\
 BBM c i = BFQ c i /\ BFD c i = AOI c i /\ AVL c i = BFO c i /\ AKJ c i = BAX c i) /\ AOK c /\ AO = AO /\ (∀ (n : Int), gG c n = hasN (AH c).c.ns n) /\ ER c
 /\ (∀ (n : Int), ASY c n = (ntOf (AH c).c.ns n).mi /\ BEP c n = (ntOf (AH c).c.ns n).t.lo /\ BDG c n = (ntOf (AH c).c.ns n).t.hi /\ AMT c n = (ntOf (AH c).c.ns n).s.lo /\ AUK c n = (ntOf
 (AH c).c.ns n).s.hi) /\ AMX c /\ AXZ c /\ ASP c /\ ARC c /\ ARX c /\ Gi c = NN c /\ (∀ (i : Nat), i < Gi c -> AWO c i = ATG c i /\ BED c i = AZV c i) /\
 Fs c = jP c /\ (∀ (i : Nat), i < Fs c -> AME c i = BGE c i /\ BFQ c i = BBM c i /\ AOI c i = BFD c i /\ BFO c i = AVL c i /\ BAX c i = AKJ c i) /\
 AOK c /\ AO = AO /\ (∀ (n : Int), hasN (AH c).c.ns n = gG c n) /\ ER c /\ (∀ (n : Int), (ntOf (AH c).c.ns n).mi = ASY c n /\ (ntOf (AH c).c.ns n).t.lo = BEP c n /\ (ntOf (AH c).c.ns
 n).t.hi = BDG c n /\ (ntOf (AH c).c.ns n).s.lo = AMT c n /\ (ntOf (AH c).c.ns n).s.hi = AUK c n) /\ (1 : Nat) <= NN c /\ NN c <= (40 : Nat) /\ ∀ (j : Int), gG c j = true -> (0 : Int) <=
 j /\ j < (↑(NN c) : Int)) /\ bif !(AZ (Dk.mk (Cht.mk (lM c) (iZ c) (lN c) (iQ c) (jG c) (UC c)) (AH c).st (Hm c).sp)).snd then BCE c /\ BCE c /\
 BCK c /\ BCK c /\ (fwO c).e = (6 : Int) else (fwO c).q.length = (sH c).q.length /\ (∀ (i : Nat), i < (fwO c).q.length -> gD (fwO c).q i = gD (sH c).q i) /\ (fwO c).r.length = (sH c).r.length /\ (∀ (i : Nat), i <
 (fwO c).r.length -> (gD (fwO c).r i).a = (gD (sH c).r i).a /\ (gD (fwO c).r i).b = (gD (sH c).r i).b) /\ (fwO c).e = (0 : Int)
theorem DRD (c : Cht) : (DPI c) = ((c.p.lo = c.p.lo /\ c.p.hi = c.p.hi /\ c.base = c.base /\ c.scale = c.scale /\ c.off = c.off /\ CMN c /\ CIH c /\ CJG c /\ BRS c /\ (ACV c < (4611686018427387904 : Nat)
 /\ qG c < (4611686018427387904 : Nat)) /\ AM (AIM c) = (0 : Int)) /\ ((∃ (a : One), (BK /\ HV /\ FU c /\ Int.ofNat (0 : Nat) = Int.ofNat (0 : Nat) /\ c.p.lo = c.p.lo /\ c.p.hi = c.p.hi /\ c.base =
 c.base /\ c.scale = c.scale /\ c.off = c.off /\ HR c /\ HX c /\ HS c /\ HY c /\ (AH c).c.p.lo = (CCC c).lo /\ (AH c).c.p.hi = (CCC c).hi /\ (AH c).c.base = (XG c).base /\ (AH
 c).c.scale = (XG c).scale /\ (AH c).c.off = (XG c).off /\ (AH c).c.ms.length = (BTS c).length /\ (∀ (i : Nat), AFY i c -> (gD (AH c).c.ms i).pl = (BTF c i).pl /\ (gD (AH c).c.ms i).ht =
 (BTF c i).ht) /\ (AH c).c.ns.length = (dK c).length /\ (∀ (i : Nat), AJY i c -> (gD (AH c).c.ns i).mi = (AAF c i).mi /\ Ea c i = (CAX c i).lo /\ Gd c i = (CAX c i).hi /\ Gv
 c i = (CAC c i).lo /\ Hl c i = (CAC c i).hi) /\ FH /\ AO = AO /\ (∀ (n : Int), hasN (AH c).c.ns n = hasN (dK c) n) /\ (∀ (n : Int), (AH c).st n = (BMF c).st n) /\ ∀ (n : Int), (ntOf (AH
 c).c.ns n).mi = (AII c n).mi /\ (ntOf (AH c).c.ns n).t.lo = (BPZ c n).lo /\ (ntOf (AH c).c.ns n).t.hi = (BPZ c n).hi /\ (ntOf (AH c).c.ns n).s.lo = (BSK c n).lo /\ (ntOf (AH c).c.ns n).s.hi =
 (BSK c n).hi) /\ True) /\ (∀ (a : One), True -> bif decide ((↑(0 : Nat) : Int) < (↑c.ns.length : Int)) then BWS /\ ∃ (a : Nat), (BK /\ a = (1 : Nat) /\ FU c /\ (↑a : Int) = IntKind.i64.wrap ((↑(0 : Nat) :
 Int) + (1 : Int)) /\ c.p.lo = c.p.lo /\ c.p.hi = c.p.hi /\ c.base = c.base /\ c.scale = c.scale /\ c.off = c.off /\ HR c /\ HX c /\ HS c /\ HY c /\ GJ c /\ FS c /\ FY c /\ GF c /\
 FW c /\ JD c /\ IM c /\ IG c /\ IX c /\ FH /\ AO = AO /\ IF c /\ ER c /\ IR c /\ a = (1 : Nat) /\ ∀ (i : Nat), i < a -> (↑i : Int) = (↑(0 : Nat) : Int)) /\ ABR a c /\
 AHJ a < (60 : Nat) else False) /\ ∀ (a : Nat), ABR a c -> bif AHQ a c then ((a = a /\ ((0 : Nat) < a -> AEY)) /\ AJZ /\ AGJ /\ Qx a <= (9223372036854775807 : Nat) /\ Qx a * (8 : Nat) <=
 (140737488355328 : Nat)) /\ ∃ (a_2 : Nat), (BK /\ BVP a_2 a /\ FU c /\ ACL a_2 a /\ c.p.lo = c.p.lo /\ c.p.hi = c.p.hi /\ c.base = c.base /\ c.scale = c.scale /\ c.off = c.off /\ HR c /\ HX c /\
 HS c /\ HY c /\ GJ c /\ FS c /\ FY c /\ GF c /\ FW c /\ JD c /\ IM c /\ IG c /\ IX c /\ FH /\ AO = AO /\ IF c /\ ER c /\ IR c /\ BVP a_2 a
 /\ ∀ (i : Nat), i < a_2 -> (↑i : Int) = bif decide (i < a) then (↑i : Int) else (↑a : Int)) /\ ABR a_2 c /\ AHJ a_2 < AHJ a else ∃ (a_2 : One), (BK /\ c.ns.length = a /\ c.p.lo = c.p.lo /\ c.p.hi = c.p.hi /\
 c.base = c.base /\ c.scale = c.scale /\ c.off = c.off /\ HR c /\ HX c /\ HS c /\ HY c /\ GJ c /\ FS c /\ FY c /\ GF c /\ FW c /\ JD c /\ IM c /\ IG c /\ IX c
 /\ FH /\ AO = AO /\ IF c /\ ER c /\ IR c /\ c.ns.length = a /\ ∀ (i : Nat), i < c.ns.length -> (↑i : Int) = (↑i : Int)) /\ BMT c) /\ ∀ (a : One), BMT c -> ((BK /\ BQX c /\ BQX c /\
 (∀ (i : Nat), BUL i c -> AFJ c i = (↑i : Int)) /\ c.p.lo = c.p.lo /\ c.p.hi = c.p.hi /\ c.base = c.base /\ c.scale = c.scale /\ c.off = c.off /\ CMN c /\ CIH c /\ CJG c /\ BRS c /\ c.p.lo = c.p.lo /\
 c.p.hi = c.p.hi /\ c.base = c.base /\ c.scale = c.scale /\ c.off = c.off /\ c.ms.length = ACV c /\ (∀ (i : Nat), i < c.ms.length -> (gD c.ms i).pl = CKF c i /\ (gD c.ms i).ht = CFD c i) /\ c.ns.length = qG c /\
 (∀ (i : Nat), i < c.ns.length -> (gD c.ns i).mi = BOL c i /\ (gD c.ns i).t.lo = BZL c i /\ (gD c.ns i).t.hi = BRI c i /\ (gD c.ns i).s.lo = BRQ c i /\ (gD c.ns i).s.hi = BWM c i) /\ Gf c <= (12 :
 Nat) /\ Gf c < (1073741824 : Nat) /\ ∀ (i : Nat), BUL i c -> (0 : Int) <= AFJ c i /\ AFJ c i < (↑(qG c) : Int)) /\ ∃ (a : One), ((BL c).length = c.ns.length /\ (0 : Nat) + c.ns.length <= Gf c /\
 (∀ (j : Nat), j < (BL c).length -> gD (BL c) j = gD (stM (KF (AIM c)) (AJW c)) (AIU j)) /\ XP c) /\ True) /\ ∀ (a : One), True -> ((∃ (a : Nat), (BK /\ HV /\ BK /\ HV /\ CA
 c /\ BZ c /\ (DE c a).la = (-1 : Int) /\ CA c /\ BZ c /\ (↑c.ns.length : Int) = (↑(BL c).length : Int) /\ (↑a : Int) = (0 : Int) /\ XP c) /\ AFX a c) /\ (∀ (a : Nat), AFX a c -> bif AHQ a
 c then (BXO a c /\ BWG a c /\ (∃ (a_2 : IJ), (BVE c a_2 a /\ BUD a_2 c a /\ BYO a_2 c /\ BOP a_2 a /\ BPE a_2 /\ BK /\ HV /\ BK /\ HV /\ CA c /\ BZ c /\ BOG
 c a_2 a /\ CA c /\ BZ c /\ FU c /\ BZB a_2 a /\ XP c) /\ kX a_2 c a) /\ ∀ (a_2 : IJ), kX a_2 c a -> bif AOS a_2 then ANX a_2 c /\ AXY a_2 c /\ bif AQR c a_2 then
 ATO c a_2 /\ (BWS /\ (True /\ (CBX -> (0 : Nat) = (2 : Nat))) /\ BDF /\ CAV /\ BMP /\ (16 : Nat) <= (140737488355328 : Nat)) /\ ∃ (a_4 : Nat), (BK /\ ALS c a_4 /\ BK /\ AQY c
 a_4 /\ CA c /\ BZ c /\ ANK c a_4 a_2 /\ CA c /\ BZ c /\ FU c /\ Fa a_4 a_2 /\ c.p.lo = c.p.lo /\ c.p.hi = c.p.hi /\ c.base = c.base /\ c.scale = c.scale /\ c.off = c.off /\ HR c /\
 HX c /\ HS c /\ HY c /\ GJ c /\ FS c /\ FY c /\ GF c /\ FW c /\ JD c /\ IM c /\ IG c /\ IX c /\ FH /\ AO = AO /\ IF c /\ ER c /\ IR c /\
 ALS c a_4 /\ (∀ (i : Nat), gZ i c a_4 -> Ex c a_4 i = lU c a_2) /\ AQY c a_4 /\ ∀ (i : Nat), mF i c a_4 -> Hx c a_4 i = LI a_2 c /\ Jb c a_4 i = gD (BL c) a_2.i) /\
 Fp a_4 c a else ∃ (a_4 : IJ), (AVK c a_4 a_2 /\ AZG a_4 c a_2 /\ ALL a_4 c a_2 /\ Ek a_4 a_2 /\ AVR a_4 a_2 /\ BK /\ HV /\ BK /\ HV /\ CA c /\ BZ c /\
 BCR c a_4 a_2 /\ CA c /\ BZ c /\ FU c /\ Ek a_4 a_2 /\ XP c) /\ kX a_4 c a /\ BDA c a_4 a_2 else ∃ (a_4 : Nat), (BK /\ HV /\ BK /\ HV /\ CA c /\
 BZ c /\ ALW c a_4 a_2 /\ CA c /\ BZ c /\ FU c /\ Fa a_4 a_2 /\ XP c) /\ AMN a_4 c a) /\ (∀ (a_2 : Nat), AMN a_2 c a -> ∃ (a_4 : Nat), (BK /\ HV /\ BK /\
 HV /\ CA c /\ BZ c /\ AZO c a_4 a_2 /\ CA c /\ BZ c /\ FU c /\ ACL a_4 a_2 /\ XP c) /\ AFX a_4 c /\ AOA c a_4 a) /\ fL c a else ∃ (a : One), (BEZ c /\
 BEZ c /\ BFN c /\ BFN c /\ AFR c) /\ True) /\ ∀ (a : Nat), AWP a c -> bif AHQ a c then (BXO a c /\ BWG a c /\ (∃ (a_2 : IJ), (BVE c a_2 a /\ BUD a_2 c a /\ BYO a_2 c /\
 BOP a_2 a /\ BPE a_2 /\ BK /\ BEB c a_2 a /\ BK /\ AXE c a_2 a /\ CA c /\ BZ c /\ BOG c a_2 a /\ CA c /\ BZ c /\ FU c /\ BZB a_2 a /\ c.p.lo = c.p.lo /\ c.p.hi
 = c.p.hi /\ c.base = c.base /\ c.scale = c.scale /\ c.off = c.off /\ HR c /\ HX c /\ HS c /\ HY c /\ GJ c /\ FS c /\ FY c /\ GF c /\ FW c /\ JD c /\ IM c /\ IG c /\
 IX c /\ FH /\ AO = AO /\ IF c /\ ER c /\ IR c /\ BEB c a_2 a /\ (∀ (i : Nat), jV i c a_2 -> gD (DE c a_2.i).q i = gD (DE c a).q i) /\ AXE c a_2 a /\ ∀ (i : Nat), fI i c
 a_2 -> UA c a_2 i = (gD (DE c a).r i).a /\ VH c a_2 i = (gD (DE c a).r i).b) /\ fU a_2 c a) /\ ∀ (a_2 : IJ), fU a_2 c a -> bif AOS a_2 then ANX a_2 c /\ AXY a_2 c /\ bif AQR
 c a_2 then ATO c a_2 /\ ((((DE c a_2.i).q.length = (DE c a_2.i).q.length /\ ((0 : Nat) < (DE c a_2.i).q.length -> AEY)) /\ AJZ /\ AGJ /\ oI c a_2 <= (9223372036854775807 : Nat) /\ oI c a_2 *
 (8 : Nat) <= (140737488355328 : Nat)) /\ ((DE c a_2.i).r.length = (DE c a_2.i).r.length /\ ((0 : Nat) < (DE c a_2.i).r.length -> BFG)) /\ BDF /\ AGJ /\ eY c a_2 <= (9223372036854775807 : Nat) /\
 eY c a_2 * (16 : Nat) <= (140737488355328 : Nat)) /\ ∃ (a_4 : Nat), (BK /\ AXF c a_4 a_2 /\ BK /\ AUO c a_4 a_2 /\ CA c /\ BZ c /\ ANK c a_4 a_2 /\ CA c /\ BZ c /\
 FU c /\ Fa a_4 a_2 /\ c.p.lo = c.p.lo /\ c.p.hi = c.p.hi /\ c.base = c.base /\ c.scale = c.scale /\ c.off = c.off /\ HR c /\ HX c /\ HS c /\ HY c /\ GJ c /\ FS c /\ FY c /\
 GF c /\ FW c /\ JD c /\ IM c /\ IG c /\ IX c /\ FH /\ AO = AO /\ IF c /\ ER c /\ IR c /\ AXF c a_4 a_2 /\ (∀ (i : Nat), gZ i c a_4 -> Ex c a_4 i = bif
 decide (jV i c a_2) then gD (DE c a_2.i).q i else lU c a_2) /\ AUO c a_4 a_2 /\ ∀ (i : Nat), mF i c a_4 -> (Hx c a_4 i = bif ASS i c a_2 then UA c a_2 i else LI a_2 c)
 /\ Jb c a_4 i = bif ASS i c a_2 then VH c a_2 i else gD (BL c) a_2.i) /\ Fp a_4 c a else ∃ (a_4 : IJ), (AVK c a_4 a_2 /\ AZG a_4 c a_2 /\ ALL a_4 c a_2 /\ Ek a_4 a_2 /\
 AVR a_4 a_2 /\ BK /\ ARM c a_4 a_2 /\ BK /\ ATU c a_4 a_2 /\ CA c /\ BZ c /\ BCR c a_4 a_2 /\ CA c /\ BZ c /\ FU c /\ Ek a_4 a_2 /\ c.p.lo = c.p.lo /\ c.p.hi =
 c.p.hi /\ c.base = c.base /\ c.scale = c.scale /\ c.off = c.off /\ HR c /\ HX c /\ HS c /\ HY c /\ GJ c /\ FS c /\ FY c /\ GF c /\ FW c /\ JD c /\ IM c /\ IG c /\
 IX c /\ FH /\ AO = AO /\ IF c /\ ER c /\ IR c /\ ARM c a_4 a_2 /\ (∀ (i : Nat), jV i c a_4 -> gD (DE c a_4.i).q i = gD (DE c a_2.i).q i) /\ ATU c a_4 a_2 /\ ∀ (i : Nat),
 fI i c a_4 -> UA c a_4 i = UA c a_2 i /\ VH c a_4 i = VH c a_2 i) /\ fU a_4 c a /\ BDA c a_4 a_2 else ∃ (a_4 : Nat), (BK /\ BCW c a_4 a_2 /\ BK /\ BCP c
 a_4 a_2 /\ CA c /\ BZ c /\ ALW c a_4 a_2 /\ CA c /\ BZ c /\ FU c /\ Fa a_4 a_2 /\ c.p.lo = c.p.lo /\ c.p.hi = c.p.hi /\ c.base = c.base /\ c.scale = c.scale /\ c.off = c.off /\ HR c /\
 HX c /\ HS c /\ HY c /\ GJ c /\ FS c /\ FY c /\ GF c /\ FW c /\ JD c /\ IM c /\ IG c /\ IX c /\ FH /\ AO = AO /\ IF c /\ ER c /\ IR c /\
 BCW c a_4 a_2 /\ (∀ (i : Nat), gZ i c a_4 -> Ex c a_4 i = gD (DE c a_2.i).q i) /\ BCP c a_4 a_2 /\ ∀ (i : Nat), mF i c a_4 -> Hx c a_4 i = UA c a_2 i /\ Jb c a_4 i =
 VH c a_2 i) /\ Fp a_4 c a) /\ fL c a /\ fL c a else ∃ (a_2 : One), ((sH c).q.length = (DE c a).q.length /\ (0 : Nat) + (DE c a).q.length <= (DE c a).q.length /\ (∀ (j : Nat), j < (sH
 c).q.length -> gD (sH c).q j = gD (DE c a).q (AIU j)) /\ (sH c).r.length = (DE c a).r.length /\ (0 : Nat) + (DE c a).r.length <= (DE c a).r.length /\ (∀ (j : Nat), j < (sH c).r.length -> (gD (sH c).r j).a =
 (ARJ c a j).a /\ (gD (sH c).r j).b = (ARJ c a j).b) /\ AFR c) /\ True) /\ AXH c /\ AXH c) := by kernel_rfl
theorem DNM (a b : Int) : dPr (.agg [EU a, .v (.int .i64 b)]) = ⟨a, b⟩ := rfl
theorem BWH (c : Cht) : Dk.mk c (AH c).st (AH c).sp = AH c := rfl
theorem DMN {c : Cht} (h : nsIn c) : ∀ i, i < c.ns.length -> 0 <= (gD c.ns i).mi /\ (gD c.ns i).mi < c.ms.length := λ i hi => h _ (List.any_eq_true.2 ⟨_, RK hi, by simp⟩)
theorem CXZ (n : Nat) : (idL n).length = n := by unfold idL; simp
theorem CDP (c : Cht) : (BL c).Perm (idL c.ns.length) := DHE _ _
theorem BWY (c : Cht) : (BL c).length = c.ns.length := by rw [(CDP c).length_eq, CXZ]
theorem DJO (c : Cht) {i : Nat} (hi : i < c.ns.length) : 0 <= gD (BL c) i /\ gD (BL c) i < c.ns.length := by
 have hm : gD (BL c) i ∈ idL c.ns.length := (CDP c).mem_iff.1 (RK (by rw [BWY]; exact hi))
 obtain ⟨k, hk, e⟩ := Oe hm
 rw [CXZ] at hk
 have e2 : gD (idL c.ns.length) k = (k : Int) := BD _ _ _ hk
 rw [<- e, e2]; omega
theorem DNA {c : Cht} {k : Nat} (hk : k <= c.ns.length) (h : ∀ t, t < k -> fwP c (DE c k).la (gD (BL c) k) (gD (BL c) t) = false) : DE c (k + 1) = DE c k := by
 show fwN c (DE c k) _ (((BL c).take k).find? _) = _
 rw [CWH]
 ·rfl
 ·intro t ht
  have ht : t < k := by rw [List.length_take] at ht; omega
  rw [AGZ ht]; exact h t ht
theorem DPF {c : Cht} {k j : Nat} (hk : k <= c.ns.length) (hj : j < k) (h : ∀ t, t < j -> fwP c (DE c k).la (gD (BL c) k) (gD (BL c) t) = false) (h2 : fwP c (DE c k).la (gD (BL c) k) (gD (BL c) j) = true) : DE c (k + 1) = ⟨wr (miA c (gD (BL c) k) - 1), (DE c k).q ++ [wr (miA c (gD (BL c) k) - 1)], (DE c k).r ++ [⟨gD (BL c) j, gD (BL c) k⟩]⟩ := by
 have e : (((BL c).take k).find? (fwP c (DE c k).la (gD (BL c) k))) = some (gD ((BL c).take k) j) := CWU (by rw [List.length_take, BWY]; omega) (λ t ht => by rw [AGZ (by omega)]; exact h t ht) (by rw [AGZ hj]; exact h2)
 show fwN c (DE c k) _ (((BL c).take k).find? _) = _
 rw [e, AGZ hj]; rfl
theorem DCD (c : Cht) : ∀ k, (DE c k).q.length <= k /\ (DE c k).r.length = (DE c k).q.length
 | 0 => ⟨Nat.le_refl _, rfl⟩
 | k + 1 => by
  obtain ⟨h1, h2⟩ := DCD c k
  show (fwN c (DE c k) _ (((BL c).take k).find? _)).q.length <= _ /\ (fwN c (DE c k) _ (((BL c).take k).find? _)).r.length = (fwN c (DE c k) _ (((BL c).take k).find? _)).q.length
  cases ((BL c).take k).find? (fwP c (DE c k).la (gD (BL c) k)) with
  | none => exact ⟨by show (DE c k).q.length <= _; omega, h2⟩
  | some a =>
   refine ⟨?_, ?_⟩
   ·show ((DE c k).q ++ [_]).length <= _
    rw [List.length_append]; simp; omega
   ·show ((DE c k).r ++ [_]).length = ((DE c k).q ++ [_]).length
    rw [List.length_append, List.length_append]; simp; omega
theorem JK {α : Type} [Inhabited α] (l : List α) (x : α) (i : Nat) (h : i < l.length + 1) : gD (l ++ [x]) i = bif decide (i < l.length) then gD l i else x := by
 rw [APM]
 by_cases h2 : i < l.length
 ·simp [h2]
 ·have : i - l.length = 0 := by omega
  rw [if_neg h2, this, decide_eq_false h2]; rfl
theorem DTK (c : Cht) (h1 : c.ms.length < 4611686018427387904 /\ c.ns.length < 4611686018427387904) (h0 : AM c = 0) (hn : 1 <= c.ns.length /\ c.ns.length <= 12) : DPI c := by
 have hl := DG h0
 have hs := SB h0
 have hM := DMN hs.1
 have hO := BWY c
 have hR := λ i (h : i < c.ns.length) => DJO c h
 have hF := DCD c
 rw [DRD]; delta BLJ ACV CMN CPL CKF CFD CIH BJS qG CJG AHU BOL BUZ BZL BRI BRZ BRQ BWM BRS AIM BK HV FU HR HX HS HY BMF XG CCC BTS AFY BTF dK AJY AAF Ea CAX Gd Gv CAC Hl FH AII BPZ BSK CBX BYI bM AEY AJZ CAV BMP BWS GJ FS FY GF FW JD IM IG IX IF ER IR ABR AHJ AHQ AGJ Qx BVP ACL BMT AJW Gf BQX BUL AFJ AIU AFR XP CA BZ AFX BYX BXO BWG BVE BNA BUD BZV AJJ BYO BOP BPE BOG BZB Dx BNJ kX AOS ANX LI AYT jU rL mI iR SU BBL AQW AYD BDJ AKD SX NT ARW AOF oU Fw AVI BEG ANG ANT BAS AUP BDN AVJ ATP jB BDK ATW AWT AOV AKE AUM ANI AQP AVT AXY BAV AQR ATO BFG BDF nF fQ OY ALS ARI VC AQY gF lU ANK Fa gZ Ex mF BBJ Hx Jb BGX Fp AVK AZG ALL Ek AVR BCR AYV BDA ALW AMN AZO AOA AQX AWY AWP fL BEZ BFN BEB AXE jV fI UA VH fU oI eY AXF AUO ASS ARM ATU BCW BCP ARJ fD rD Hm MP Io oZ APE BDE lM ATA AMX BBA AXZ iZ ASP lN ARC iQ ARX BDW Gi gV jG NN BGJ ATG AWO AZV BED Fs Ii UC jP mK BGE AME AUX BBM ART BFQ BFD AOI AOM AVL BFL BFO AKJ BAX AMD AOK gG qQ ASY AUG BEP BDG AOL AMT AUK BCE BCK AXH; simp only [AU, eq_self, implies_true, and_self, true_and, and_true, true_implies, forall_const, decide_eq_true_eq, decide_eq_false_iff_not, Int.toNat_natCast, dSpan_eSpan, dInt_eInt, AY, AW, AX, Nat.zero_add, Int.zero_sub, Nat.le_eq, Nat.succ_eq_add_one, Nat.add_one_le_iff, Bool.not_eq_true', Bool.not_eq_false', rng_length, AK, AJ, BI, BBK, RO, CSK, BWH, DNM]
 have hI : ∀ i, i < c.ns.length -> gD (AF c.ns.length λ i => (i : Int)) i = (i : Int) := λ i hi => BD _ _ _ hi
 have hT : ∀ k j, j < k -> gD ((BL c).take k) j = gD (BL c) j := λ k j h => AGZ h
 have hTl : ∀ k, k <= c.ns.length -> ((BL c).take k).length = k := λ k h => by rw [List.length_take, hO]; omega
 have pre : ∀ x ∈ [0], True := λ _ _ => trivial
 refine ⟨⟨h1, h0⟩, ⟨⟨⟨default, trivial⟩, ?_, ?_⟩, λ _ => ⟨⟨⟨hI, hn.2, by omega, ?_⟩, default, hO, Nat.le_refl _, λ _ _ => rfl⟩, ⟨⟨0, ⟨rfl, by rw [hO], rfl⟩, Nat.zero_le _, rfl⟩, ?_, ?_⟩, ?_⟩⟩⟩
 ·refine ⟨λ _ => ⟨by decide, 1, ⟨rfl, by decide, rfl, λ i hi => by omega⟩, by omega, by omega⟩, λ h => h (by omega)⟩
 ·intro a ha
  refine ⟨λ h => ⟨⟨Nat.one_pos, (λ h => by cases h), by omega, by omega⟩, a + 1, ⟨rfl, by rw [EN (by omega) (by omega)]; rfl, rfl, λ i hi => ?_⟩, by omega, by omega⟩, λ h => ⟨default, by omega, by omega⟩⟩
  by_cases h2 : i < a
  ·rw [decide_eq_true h2]; rfl
  ·rw [decide_eq_false h2]; show (i : Int) = a; omega
 ·intro i hi; rw [hI i hi]; omega
 ·rintro k ⟨hk, hq⟩
  refine ⟨λ h => ?_, λ h => ?_⟩
  ·have hk2 : k < c.ns.length := by omega
   refine ⟨⟨⟨by omega, by omega⟩, ⟨by omega, by omega, by omega⟩, ⟨⟨k, 0⟩, ⟨rfl, hTl k hk, λ i hi => ?_, rfl, rfl, rfl, rfl⟩, ⟨hk2, rfl, Nat.zero_le _, λ t ht => absurd ht (Nat.not_lt_zero _)⟩, hq⟩, ?_⟩, ?_, ?_⟩
   ·rw [hT _ _ (by have hi : i < ((BL c).take k).length := hi; rw [hTl k hk] at hi; exact hi), show Int.toNat 0 = 0 from rfl, Nat.zero_add]
   ·rintro y ⟨⟨y1, y2, y3, y4⟩, y5⟩
    have hp : ∀ j, j < y.i -> (bif decide ((gD c.ns (gD ((BL c).take y.i) j).toNat).mi > (DE c y.i).la) then Ac c { a := gD ((BL c).take y.i) j, b := gD (BL c) y.i } else false) = fwP c (DE c y.i).la (gD (BL c) y.i) (gD (BL c) j) := λ j hj => by rw [hT _ _ hj]; rfl
    refine ⟨λ hj => ⟨⟨by omega, by rw [hTl _ (by omega)]; exact hj⟩, ⟨by rw [hT _ _ (by omega)]; exact hR _ (by omega), λ _ => ⟨⟨by rw [hT _ _ (by omega)]; exact hR _ (by omega), hR _ y1⟩, ⟨hl.2.1.2, hl.2.2⟩, hM⟩⟩, λ hc => ?_, λ hc => ?_⟩, λ hj => ?_⟩
    ·rw [hp _ (by omega)] at hc
     have e := DPF (by omega) (by omega) y4 hc
     rw [hT _ _ (by omega)]
     have h8 : (DE c y.i).r = [] := List.length_eq_zero_iff.1 (by rw [(hF y.i).2, y5]; rfl)
     refine ⟨hR _ y1, by decide, y.i, ?_, y1, y2, ?_⟩
     ·rw [e, y5, h8]
      refine ⟨rfl, rfl, rfl, rfl, rfl, λ i hi => ?_, rfl, λ i hi => ?_⟩
      ·have hi : i < 1 := hi
       obtain rfl : i = 0 := by omega
       rfl
      ·have hi : i < 1 := hi
       obtain rfl : i = 0 := by omega
       exact ⟨rfl, rfl⟩
     ·rw [e, y5]; exact Nat.one_pos
    ·rw [hp _ (by omega)] at hc
     have e : IntKind.i64.wrap ((y.j : Int) + 1) = ((y.j + 1 : Nat) : Int) := by rw [EN (by omega) (by omega)]; rfl
     refine ⟨⟨y.i, y.j + 1⟩, ⟨rfl, rfl, λ _ _ => rfl, rfl, e.symm, rfl, rfl⟩, ⟨⟨y1, y2, by show y.j + 1 <= y.i; omega, λ t ht => ?_⟩, y5⟩, by show _ - (y.j + 1) < _; omega⟩
     have ht : t < y.j + 1 := ht
     by_cases h2 : t = y.j
     ·subst h2; exact hc
     ·exact y4 t (by omega)
    ·have e := DNA (by omega) (λ t (ht : t < y.i) => y4 t (by omega))
     refine ⟨y.i, ?_, y1, y2, ?_⟩
     ·rw [e]; exact ⟨rfl, rfl⟩
     ·rw [e]; exact y5
   ·rintro k' ⟨g1, g2, g3⟩
    refine ⟨k' + 1, ⟨rfl, by rw [EN (by omega) (by omega)]; rfl⟩, ⟨by omega, g3⟩, by omega⟩
   ·rintro k' ⟨g1, g2, g3⟩
    refine ⟨k' + 1, ⟨rfl, rfl, rfl, by rw [EN (by omega) (by omega)]; rfl, rfl, λ _ _ => rfl, rfl, λ _ _ => ⟨rfl, rfl⟩⟩, ⟨by omega, g3⟩, by omega⟩
  ·have e : k = c.ns.length := by omega
   have h8 : (DE c k).r = [] := List.length_eq_zero_iff.1 (by rw [(hF k).2, hq]; rfl)
   subst e
   exact ⟨default, by show (DE c _).q.length = 0; rw [hq]; rfl, by show (DE c _).q.length = 0; rw [hq]; rfl, by show (DE c _).r.length = 0; rw [h8]; rfl⟩
 ·rintro k ⟨hk, hq⟩
  refine ⟨λ h => ?_, λ h => ?_⟩
  ·have hk2 : k < c.ns.length := by omega
   refine ⟨⟨⟨by omega, by omega⟩, ⟨by omega, by omega, by omega⟩, ⟨⟨k, 0⟩, ⟨rfl, hTl k hk, λ i hi => ?_, rfl, rfl, rfl, rfl, rfl, rfl, rfl, λ _ _ => rfl, rfl, λ _ _ => ⟨rfl, rfl⟩⟩, ⟨hk2, rfl, Nat.zero_le _, λ t ht => absurd ht (Nat.not_lt_zero _)⟩, hq⟩, ?_⟩, ?_⟩
   ·rw [hT _ _ (by have hi : i < ((BL c).take k).length := hi; rw [hTl k hk] at hi; exact hi), show Int.toNat 0 = 0 from rfl, Nat.zero_add]
   ·rintro y ⟨⟨y1, y2, y3, y4⟩, y5⟩
    have hp : ∀ j, j < y.i -> (bif decide ((gD c.ns (gD ((BL c).take y.i) j).toNat).mi > (DE c y.i).la) then Ac c { a := gD ((BL c).take y.i) j, b := gD (BL c) y.i } else false) = fwP c (DE c y.i).la (gD (BL c) y.i) (gD (BL c) j) := λ j hj => by rw [hT _ _ hj]; rfl
    refine ⟨λ hj => ⟨⟨by omega, by rw [hTl _ (by omega)]; exact hj⟩, ⟨by rw [hT _ _ (by omega)]; exact hR _ (by omega), λ _ => ⟨⟨by rw [hT _ _ (by omega)]; exact hR _ (by omega), hR _ y1⟩, ⟨hl.2.1.2, hl.2.2⟩, hM⟩⟩, λ hc => ?_, λ hc => ?_⟩, λ hj => ?_⟩
    ·rw [hp _ (by omega)] at hc
     have e := DPF (by omega) (by omega) y4 hc
     rw [hT _ _ (by omega)]
     have h9 := hF y.i
     refine ⟨hR _ y1, ⟨⟨Nat.one_pos, (λ h => by cases h), by omega, by omega⟩, Nat.one_pos, (λ h => by cases h), by omega, by omega⟩, y.i, ?_, y1, y2, ?_⟩
     ·rw [e]
      refine ⟨by simp, by simp, rfl, rfl, by simp, λ i hi => ?_, by simp, λ i hi => ?_⟩
      ·exact JK _ _ _ (by simpa using hi)
      ·have hi2 : i < (DE c y.i).r.length + 1 := by simpa using hi
       show (gD ((DE c y.i).r ++ [_]) i).a = _ /\ (gD ((DE c y.i).r ++ [_]) i).b = _
       rw [JK _ _ _ hi2]
       cases decide (i < (DE c y.i).r.length) <;> exact ⟨rfl, rfl⟩
     ·rw [e]; simp
    ·rw [hp _ (by omega)] at hc
     have e : IntKind.i64.wrap ((y.j : Int) + 1) = ((y.j + 1 : Nat) : Int) := by rw [EN (by omega) (by omega)]; rfl
     refine ⟨⟨y.i, y.j + 1⟩, ⟨rfl, rfl, λ _ _ => rfl, rfl, e.symm, rfl, rfl, rfl, rfl, rfl, λ _ _ => rfl, rfl, λ _ _ => ⟨rfl, rfl⟩⟩, ⟨⟨y1, y2, by show y.j + 1 <= y.i; omega, λ t ht => ?_⟩, y5⟩, by show _ - (y.j + 1) < _; omega⟩
     have ht : t < y.j + 1 := ht
     by_cases h2 : t = y.j
     ·subst h2; exact hc
     ·exact y4 t (by omega)
    ·have e := DNA (by omega) (λ t (ht : t < y.i) => y4 t (by omega))
     refine ⟨y.i, ?_, y1, y2, ?_⟩
     ·rw [e]; exact ⟨rfl, rfl, rfl, rfl, rfl, λ _ _ => rfl, rfl, λ _ _ => ⟨rfl, rfl⟩⟩
     ·rw [e]; exact y5
   ·rintro k' ⟨g1, g2, g3⟩
    refine ⟨k' + 1, ⟨rfl, rfl, rfl, by rw [EN (by omega) (by omega)]; rfl, rfl, λ _ _ => rfl, rfl, λ _ _ => ⟨rfl, rfl⟩⟩, ⟨by omega, g3⟩, by omega⟩
  ·have e : k = c.ns.length := by omega
   subst e
   exact ⟨default, rfl, Nat.le_refl _, λ _ _ => rfl, rfl, Nat.le_refl _, λ _ _ => ⟨rfl, rfl⟩⟩
 ·have h9 := hF c.ns.length
  refine ⟨⟨λ _ => rfl, by have : (sH c).q.length <= c.ns.length := h9.1; omega, hl.2.1.2⟩, ⟨hl.2.1.1, hl.2.1.2, hs.1⟩, λ hc => ?_, λ hc => ?_⟩
  ·have hc : (AZ (fwW c)).2 = false := hc
   unfold fwO; rw [hc]; exact ⟨rfl, rfl, rfl, rfl, rfl⟩
  ·have hc : (AZ (fwW c)).2 = true := hc
   unfold fwO; rw [hc]; exact ⟨rfl, λ _ _ => rfl, rfl, λ _ _ => ⟨rfl, rfl⟩, rfl⟩
def C_insZ : Ctr := { ro := [100], α := Cht, xs := λ _ => [.d FL, .int 0, .int 0, .fn (.func RJ) [] [.bptr 100 0]], L := λ c => [(100, chB c)], val := λ _ => .d (.tup []), keep := λ c => [(100, .live (chB c))] }
def DDW : List AVal -> Heap -> Option (Cht × List (Nat × Nat) × List Nat)
 | [.d _, _, _, .fn _ _ [.bptr id _]], H => match YR H id with
  | some q => some (q, [(100, id)], [])
  | none => none
 | _, _ => none
def iz1 (c : Cht) : Shape := { α := One, dflt := default, T := λ _ => ⟨[(0, .d FL), (1, .int 0), (2, .int 0), (3, .fn (.func RJ) [] [.bptr 100 0]), (8, .int 1)], [(100, .live (chB c))]⟩, inv := λ _ => True, meas := λ _ => 0 }
def DHP (c : Cht) : Ann := { ann 53 [] with E := [100], loops := λ id => if id = 1 then some [iz1 c] else none }
def DHO (c : Cht) : Prop := BA Try.prog (DHP c) BRK (AL BRK) (C_insZ.xs c) (AG (C_insZ.L c)) (C_insZ.val c) (C_insZ.keep c) [] []
theorem DLS (c : Cht) : (DHO c) = ((∃ (a : One), ((0 : Nat) = (0 : Nat) /\ (∀ (i : Nat), i < (0 : Nat) -> false = false) /\ Int.ofNat (0 : Nat) = Int.ofNat (0 : Nat) /\ Int.ofNat (0 : Nat) = Int.ofNat (0 : Nat) /\
 Int.ofNat (1 : Nat) = Int.ofNat (((0 : Nat) + (1 : Nat)) % ((2 : Int) ^ IntKind.i64.bits).natAbs) /\ c.p.lo = c.p.lo /\ c.p.hi = c.p.hi /\ c.base = c.base /\ c.scale = c.scale /\ c.off = c.off /\ c.ms.length = c.ms.length /\ (∀
 (i : Nat), i < c.ms.length -> (gD c.ms i).pl = (gD c.ms i).pl /\ (gD c.ms i).ht = (gD c.ms i).ht) /\ c.ns.length = c.ns.length /\ ∀ (i : Nat), i < c.ns.length -> (gD c.ns i).mi = (gD c.ns i).mi /\ (gD c.ns i).t.lo = (gD c.ns
 i).t.lo /\ (gD c.ns i).t.hi = (gD c.ns i).t.hi /\ (gD c.ns i).s.lo = (gD c.ns i).s.lo /\ (gD c.ns i).s.hi = (gD c.ns i).s.hi) /\ True) /\ ∀ (a : One), True -> c.p.lo = c.p.lo /\ c.p.hi = c.p.hi /\ c.base = c.base /\ c.scale =
 c.scale /\ c.off = c.off /\ c.ms.length = c.ms.length /\ (∀ (i : Nat), i < c.ms.length -> (gD c.ms i).pl = (gD c.ms i).pl /\ (gD c.ms i).ht = (gD c.ms i).ht) /\ c.ns.length = c.ns.length /\ ∀ (i : Nat), i < c.ns.length -> (gD
 c.ns i).mi = (gD c.ns i).mi /\ (gD c.ns i).t.lo = (gD c.ns i).t.lo /\ (gD c.ns i).t.hi = (gD c.ns i).t.hi /\ (gD c.ns i).s.lo = (gD c.ns i).s.lo /\ (gD c.ns i).s.hi = (gD c.ns i).s.hi) := by kernel_rfl
theorem DKQ : AN Try.prog BBV (C_insZ.spec DDW) := MB C_insZ DHP [] [] CXL (λ _ => by kernel_rfl) (λ _ => AI) (λ (c : Cht) _ => by
 show DHO c; rw [DLS]; exact ⟨⟨default, by simp; rfl, trivial⟩, λ _ _ => by simp⟩) (λ _ => OS rfl rfl) _
def C_pdqZ : Ctr := { ro := [100], α := Cht, xs := λ _ => [.d FL, .int 0, .int 0, .any, .fn (.func RJ) [] [.bptr 100 0]], L := λ c => [(100, chB c)], val := λ _ => .d (.tup []), keep := λ c => [(100, .live (chB c))] }
def DCC : List AVal -> Heap -> Option (Cht × List (Nat × Nat) × List Nat)
 | [.d _, _, _, _, .fn _ _ [.bptr id _]], H => match YR H id with
  | some q => some (q, [(100, id)], [])
  | none => none
 | _, _ => none
def pz2 (c : Cht) : Shape := { α := One, dflt := default, T := λ _ => ⟨[(0, .d FL), (1, .int 0), (2, .int 0), (3, .any), (4, .fn (.func RJ) [] [.bptr 100 0]), (10, .bool true), (11, .bool true)], [(100, .live (chB c))]⟩, inv := λ _ => True, meas := λ _ => 0 }
def DFC (c : Cht) : Ann := { ann 148 [(BBV, C_insZ.spec DDW)] with E := [100], loops := λ id => if id = 2 then some [pz2 c] else none }
def DEV (c : Cht) : Prop := BA Try.prog (DFC c) CRV (AL CRV) (C_pdqZ.xs c) (AG (C_pdqZ.L c)) (C_pdqZ.val c) (C_pdqZ.keep c) [] []
theorem DIS (c : Cht) : (DEV c) = ((∃ (a : One), ((0 : Nat) = (0 : Nat) /\ (∀ (i : Nat), i < (0 : Nat) -> false = false) /\ Int.ofNat (0 : Nat) = Int.ofNat (0 : Nat) /\ Int.ofNat (0 : Nat) = Int.ofNat (0 : Nat) /\ true
 = true /\ true = true /\ c.p.lo = c.p.lo /\ c.p.hi = c.p.hi /\ c.base = c.base /\ c.scale = c.scale /\ c.off = c.off /\ c.ms.length = c.ms.length /\ (∀ (i : Nat), i < c.ms.length -> (gD c.ms i).pl = (gD c.ms i).pl /\ (gD c.ms
 i).ht = (gD c.ms i).ht) /\ c.ns.length = c.ns.length /\ ∀ (i : Nat), i < c.ns.length -> (gD c.ns i).mi = (gD c.ns i).mi /\ (gD c.ns i).t.lo = (gD c.ns i).t.lo /\ (gD c.ns i).t.hi = (gD c.ns i).t.hi /\ (gD c.ns i).s.lo = (gD
 c.ns i).s.lo /\ (gD c.ns i).s.hi = (gD c.ns i).s.hi) /\ True) /\ ∀ (a : One), True -> ((0 : Nat) = (0 : Nat) /\ (∀ (i : Nat), i < (0 : Nat) -> false = false) /\ Int.ofNat (0 : Nat) = Int.ofNat (0 : Nat) /\ Int.ofNat (0 : Nat) =
 Int.ofNat (0 : Nat) /\ c.p.lo = c.p.lo /\ c.p.hi = c.p.hi /\ c.base = c.base /\ c.scale = c.scale /\ c.off = c.off /\ (AF c.ms.length λ (i : Nat) => gD c.ms i).length = c.ms.length /\ (∀ (i : Nat), i < (AF c.ms.length fun
 (i : Nat) => gD c.ms i).length -> (gD (AF c.ms.length λ (i : Nat) => gD c.ms i) i).pl = (gD c.ms i).pl /\ (gD (AF c.ms.length λ (i : Nat) => gD c.ms i) i).ht = (gD c.ms i).ht) /\ (AF c.ns.length λ (i : Nat) => gD
 c.ns i).length = c.ns.length /\ (∀ (i : Nat), i < (AF c.ns.length λ (i : Nat) => gD c.ns i).length -> (gD (AF c.ns.length λ (i : Nat) => gD c.ns i) i).mi = (gD c.ns i).mi /\ (gD (AF c.ns.length λ (i : Nat) => gD
 c.ns i) i).t.lo = (gD c.ns i).t.lo /\ (gD (AF c.ns.length λ (i : Nat) => gD c.ns i) i).t.hi = (gD c.ns i).t.hi /\ (gD (AF c.ns.length λ (i : Nat) => gD c.ns i) i).s.lo = (gD c.ns i).s.lo /\ (gD (AF c.ns.length λ (i
 : Nat) => gD c.ns i) i).s.hi = (gD c.ns i).s.hi) /\ c.p.lo = c.p.lo /\ c.p.hi = c.p.hi /\ c.base = c.base /\ c.scale = c.scale /\ c.off = c.off /\ c.ms.length = (AF c.ms.length λ (i : Nat) => gD c.ms i).length /\ (∀ (i :
 Nat), i < c.ms.length -> (gD c.ms i).pl = (gD (AF c.ms.length λ (i : Nat) => gD c.ms i) i).pl /\ (gD c.ms i).ht = (gD (AF c.ms.length λ (i : Nat) => gD c.ms i) i).ht) /\ c.ns.length = (AF c.ns.length λ (i : Nat) =>
 gD c.ns i).length /\ ∀ (i : Nat), i < c.ns.length -> (gD c.ns i).mi = (gD (AF c.ns.length λ (i : Nat) => gD c.ns i) i).mi /\ (gD c.ns i).t.lo = (gD (AF c.ns.length λ (i : Nat) => gD c.ns i) i).t.lo /\ (gD c.ns i).t.hi
 = (gD (AF c.ns.length λ (i : Nat) => gD c.ns i) i).t.hi /\ (gD c.ns i).s.lo = (gD (AF c.ns.length λ (i : Nat) => gD c.ns i) i).s.lo /\ (gD c.ns i).s.hi = (gD (AF c.ns.length λ (i : Nat) => gD c.ns i) i).s.hi) /\
 c.p.lo = c.p.lo /\ c.p.hi = c.p.hi /\ c.base = c.base /\ c.scale = c.scale /\ c.off = c.off /\ c.ms.length = c.ms.length /\ (∀ (i : Nat), i < c.ms.length -> (gD c.ms i).pl = (gD c.ms i).pl /\ (gD c.ms i).ht = (gD c.ms i).ht) /\
 c.ns.length = c.ns.length /\ ∀ (i : Nat), i < c.ns.length -> (gD c.ns i).mi = (gD c.ns i).mi /\ (gD c.ns i).t.lo = (gD c.ns i).t.lo /\ (gD c.ns i).t.hi = (gD c.ns i).t.hi /\ (gD c.ns i).s.lo = (gD c.ns i).s.lo /\ (gD c.ns
 i).s.hi = (gD c.ns i).s.hi) := by kernel_rfl
theorem DIZ : AN Try.prog CEN (C_pdqZ.spec DCC) := MB C_pdqZ DFC [] [] DCK (λ _ => by kernel_rfl) (λ _ => AD DKQ AI) (λ (c : Cht) _ => by
 show DEV c; rw [DIS]; simp only [AU, eq_self, implies_true, and_self, true_and, and_true, true_implies, forall_const, decide_eq_true_eq, decide_eq_false_iff_not, Int.toNat_natCast, dSpan_eSpan, dInt_eInt, AY, AW, AX, Nat.zero_add, Int.zero_sub, Nat.le_eq, Nat.succ_eq_add_one, Nat.add_one_le_iff, Bool.not_eq_true', Bool.not_eq_false', rng_length, AK, AJ]; exact ⟨default, trivial⟩) (λ _ => OS rfl rfl) _
def C_sortZ : Ctr := { ro := [100], α := Cht, xs := λ _ => [.d FL, .fn (.func RJ) [] [.bptr 100 0]], L := λ c => [(100, chB c)], val := λ _ => .d (.tup []), keep := λ c => [(100, .live (chB c))] }
def CXT : List AVal -> Heap -> Option (Cht × List (Nat × Nat) × List Nat)
 | [.d _, .fn _ _ [.bptr id _]], H => match YR H id with
  | some q => some (q, [(100, id)], [])
  | none => none
 | _, _ => none
def CWT : Ann := { ann 14 [(CGA, CEF), (CEN, C_pdqZ.spec DCC)] with E := [100] }
def CXS (c : Cht) : Prop := BA Try.prog CWT AJK (AL AJK) (C_sortZ.xs c) (AG (C_sortZ.L c)) (C_sortZ.val c) (C_sortZ.keep c) [] []
theorem DHS (c : Cht) : (CXS c) = ((((0 : Int) <= IntKind.u64.wrap (↑(0 : Nat) : Int) /\ IntKind.u64.wrap (↑(0 : Nat) : Int) <= (20 : Int)) /\ (0 : Nat) = (0 : Nat) /\ (∀ (i : Nat), i < (0 : Nat) -> false = false) /\
 Int.ofNat (0 : Nat) = Int.ofNat (0 : Nat) /\ Int.ofNat (0 : Nat) = Int.ofNat (0 : Nat) /\ c.p.lo = c.p.lo /\ c.p.hi = c.p.hi /\ c.base = c.base /\ c.scale = c.scale /\ c.off = c.off /\ (AF c.ms.length λ (i : Nat) => gD c.ms
 i).length = c.ms.length /\ (∀ (i : Nat), i < (AF c.ms.length λ (i : Nat) => gD c.ms i).length -> (gD (AF c.ms.length λ (i : Nat) => gD c.ms i) i).pl = (gD c.ms i).pl /\ (gD (AF c.ms.length λ (i : Nat) => gD c.ms i)
 i).ht = (gD c.ms i).ht) /\ (AF c.ns.length λ (i : Nat) => gD c.ns i).length = c.ns.length /\ (∀ (i : Nat), i < (AF c.ns.length λ (i : Nat) => gD c.ns i).length -> (gD (AF c.ns.length λ (i : Nat) => gD c.ns i) i).mi
 = (gD c.ns i).mi /\ (gD (AF c.ns.length λ (i : Nat) => gD c.ns i) i).t.lo = (gD c.ns i).t.lo /\ (gD (AF c.ns.length λ (i : Nat) => gD c.ns i) i).t.hi = (gD c.ns i).t.hi /\ (gD (AF c.ns.length λ (i : Nat) => gD c.ns
 i) i).s.lo = (gD c.ns i).s.lo /\ (gD (AF c.ns.length λ (i : Nat) => gD c.ns i) i).s.hi = (gD c.ns i).s.hi) /\ c.p.lo = c.p.lo /\ c.p.hi = c.p.hi /\ c.base = c.base /\ c.scale = c.scale /\ c.off = c.off /\ c.ms.length = (AF
 c.ms.length λ (i : Nat) => gD c.ms i).length /\ (∀ (i : Nat), i < c.ms.length -> (gD c.ms i).pl = (gD (AF c.ms.length λ (i : Nat) => gD c.ms i) i).pl /\ (gD c.ms i).ht = (gD (AF c.ms.length λ (i : Nat) => gD c.ms i)
 i).ht) /\ c.ns.length = (AF c.ns.length λ (i : Nat) => gD c.ns i).length /\ ∀ (i : Nat), i < c.ns.length -> (gD c.ns i).mi = (gD (AF c.ns.length λ (i : Nat) => gD c.ns i) i).mi /\ (gD c.ns i).t.lo = (gD (AF
 c.ns.length λ (i : Nat) => gD c.ns i) i).t.lo /\ (gD c.ns i).t.hi = (gD (AF c.ns.length λ (i : Nat) => gD c.ns i) i).t.hi /\ (gD c.ns i).s.lo = (gD (AF c.ns.length λ (i : Nat) => gD c.ns i) i).s.lo /\ (gD c.ns
 i).s.hi = (gD (AF c.ns.length λ (i : Nat) => gD c.ns i) i).s.hi) /\ c.p.lo = c.p.lo /\ c.p.hi = c.p.hi /\ c.base = c.base /\ c.scale = c.scale /\ c.off = c.off /\ c.ms.length = c.ms.length /\ (∀ (i : Nat), i < c.ms.length ->
 (gD c.ms i).pl = (gD c.ms i).pl /\ (gD c.ms i).ht = (gD c.ms i).ht) /\ c.ns.length = c.ns.length /\ ∀ (i : Nat), i < c.ns.length -> (gD c.ns i).mi = (gD c.ns i).mi /\ (gD c.ns i).t.lo = (gD c.ns i).t.lo /\ (gD c.ns i).t.hi =
 (gD c.ns i).t.hi /\ (gD c.ns i).s.lo = (gD c.ns i).s.lo /\ (gD c.ns i).s.hi = (gD c.ns i).s.hi) := by kernel_rfl
theorem DHZ : AN Try.prog AJB (C_sortZ.spec CXT) := MB C_sortZ (λ _ => CWT) [] [] CQM (λ _ => by kernel_rfl) (λ _ => AD DDZ (AD DIZ AI)) (λ (c : Cht) _ => by
 show CXS c; rw [DHS]; simp only [AU, eq_self, implies_true, and_self, true_and, and_true, true_implies, forall_const, decide_eq_true_eq, decide_eq_false_iff_not, Int.toNat_natCast, dSpan_eSpan, dInt_eInt, AY, AW, AX, Nat.zero_add, Int.zero_sub, Nat.le_eq, Nat.succ_eq_add_one, Nat.add_one_le_iff, Bool.not_eq_true', Bool.not_eq_false', rng_length, AK, AJ]; rw [u64w (by omega) (by omega)]; omega) (λ _ => OS rfl rfl) _
def fz6 (c : Cht) : Shape := { α := One, dflt := default, T := λ _ => ⟨(7, .d FL) :: fw6S c 0, fwH c⟩, inv := λ _ => c.ns.length = 0, meas := λ _ => 60, first := fwR }
def fz15 (c : Cht) : Shape := { α := One, dflt := default, T := λ _ => ⟨CXN ++ [(1, .bptr 201 0), (5, .bptr 203 0), (7, .d FL), (11, .int (-1)), (41, .d FL), (42, .int 0), (43, .int 0)], fwH c⟩, inv := λ _ => c.ns.length = 0, meas := λ _ => 60 }
def DFE (c : Cht) : Ann := { ann 101 [(HW, C_open.spec dC1), (AJB, C_sortZ.spec CXT), (BSP, C_stop.spec dDkZ), (Ap, C_times.spec Dh)] with loops := λ id => if id = 6 then some [fz6 c] else if id = 15 then some [fz15 c] else none }
def DIN (c : Cht) : Prop := BA Try.prog (DFE c) XQ (AL XQ) [.d (XK c)] (AG []) (.tup [.d (BB (fwO c).q), .d (Ij (fwO c).r), .int (fwO c).e]) [] [] []
abbrev AHP (c : Cht) : List Mk := AF c.ms.length λ (i : Nat) => gD c.ms i
abbrev aW (c : Cht) : Nat := (AHP c).length
abbrev BRE (c : Cht) : Prop := aW c = c.ms.length
abbrev BSO (c : Cht) (i : Nat) : Mk := gD (AHP c) i
abbrev BPW (c : Cht) (i : Nat) : Int := (BSO c i).pl
abbrev BXY (c : Cht) (i : Nat) : Int := (BSO c i).ht
abbrev CBC (c : Cht) : Prop := ∀ (i : Nat), i < aW c -> BPW c i = (gD c.ms i).pl /\ BXY c i = (gD c.ms i).ht
abbrev AGT (c : Cht) : List Nt := AF c.ns.length λ (i : Nat) => gD c.ns i
abbrev aD (c : Cht) : Nat := (AGT c).length
abbrev BPY (c : Cht) : Prop := aD c = c.ns.length
abbrev fV (c : Cht) (i : Nat) : Nt := gD (AGT c) i
abbrev AZQ (c : Cht) (i : Nat) : Int := (fV c i).mi
abbrev ALE (c : Cht) (i : Nat) : Span := (fV c i).t
abbrev ATB (c : Cht) (i : Nat) : Int := (ALE c i).lo
abbrev ASK (c : Cht) (i : Nat) : Int := (ALE c i).hi
abbrev ANO (c : Cht) (i : Nat) : Span := (fV c i).s
abbrev BAZ (c : Cht) (i : Nat) : Int := (ANO c i).lo
abbrev APU (c : Cht) (i : Nat) : Int := (ANO c i).hi
abbrev ASA (c : Cht) : Prop := ∀ (i : Nat), i < aD c -> AZQ c i = (gD c.ns i).mi /\ ATB c i = (gD c.ns i).t.lo /\ ASK c i = (gD c.ns i).t.hi /\ BAZ c i = (gD c.ns i).s.lo /\ APU c i =
 (gD c.ns i).s.hi
abbrev AZE (c : Cht) : Cht := Cht.mk c.p c.base c.scale c.off (AHP c) (AGT c)
abbrev JL : Prop := (0 : Nat) = (0 : Nat)
abbrev PB : Prop := ∀ (i : Nat), i < (0 : Nat) -> false = false
abbrev rO : Prop := Int.ofNat (0 : Nat) = Int.ofNat (0 : Nat)
abbrev AWG (c : Cht) : Prop := c.ms.length = c.ms.length
abbrev AKL (c : Cht) : Prop := ∀ (i : Nat), i < c.ms.length -> (gD c.ms i).pl = (gD c.ms i).pl /\ (gD c.ms i).ht = (gD c.ms i).ht
abbrev BHB (c : Cht) : Prop := c.ns.length = c.ns.length
abbrev AKK (c : Cht) : Prop := ∀ (i : Nat), i < c.ns.length -> (gD c.ns i).mi = (gD c.ns i).mi /\ (gD c.ns i).t.lo = (gD c.ns i).t.lo /\ (gD c.ns i).t.hi = (gD c.ns i).t.hi /\ (gD c.ns i).s.lo = (gD c.ns i).s.lo /\ (gD
 c.ns i).s.hi = (gD c.ns i).s.hi
abbrev AVM (c : Cht) : Dk := AH (AZE c)
abbrev MT (c : Cht) : Cht := (AVM c).c
abbrev BGH (c : Cht) : Span := (MT c).p
abbrev BDM (c : Cht) : List Mk := (MT c).ms
abbrev AUT (i : Nat) (c : Cht) : Prop := i < (AH c).c.ms.length
abbrev BCA (c : Cht) (i : Nat) : Mk := gD (BDM c) i
abbrev It (c : Cht) : List Nt := (MT c).ns
abbrev API (i : Nat) (c : Cht) : Prop := i < (AH c).c.ns.length
abbrev kC (c : Cht) (i : Nat) : Nt := gD (It c) i
abbrev Em (c : Cht) (i : Nat) : Int := (gD (AH c).c.ns i).t.lo
abbrev ANN (c : Cht) (i : Nat) : Span := (kC c i).t
abbrev Ho (c : Cht) (i : Nat) : Int := (gD (AH c).c.ns i).t.hi
abbrev Fx (c : Cht) (i : Nat) : Int := (gD (AH c).c.ns i).s.lo
abbrev BGA (c : Cht) (i : Nat) : Span := (kC c i).s
abbrev Ec (c : Cht) (i : Nat) : Int := (gD (AH c).c.ns i).s.hi
abbrev UH : Prop := ∀ (i : Nat), i < (40 : Nat) -> false = false
abbrev iK (c : Cht) (n : Int) : Nt := ntOf (It c) n
abbrev AOO (c : Cht) (n : Int) : Span := (iK c n).t
abbrev AYN (c : Cht) (n : Int) : Span := (iK c n).s
abbrev Hy (c : Cht) : Prop := c.ns.length = (0 : Nat)
abbrev ASJ : Prop := (0 : Nat) < (1 : Nat)
abbrev BGW (c : Cht) : Prop := (AH c).c.p.lo = (AH c).c.p.lo
abbrev BFE (c : Cht) : Prop := (AH c).c.p.hi = (AH c).c.p.hi
abbrev ANS (c : Cht) : Prop := (AH c).c.base = (AH c).c.base
abbrev AQV (c : Cht) : Prop := (AH c).c.scale = (AH c).c.scale
abbrev ALB (c : Cht) : Prop := (AH c).c.off = (AH c).c.off
abbrev Hi (c : Cht) : Prop := ∀ (n : Int), (AH c).st n = (AH c).st n
abbrev nK (c : Cht) : List Mk := AF (AH c).c.ms.length λ (i : Nat) => gD (AH c).c.ms i
abbrev mJ (c : Cht) : Nat := (nK c).length
abbrev ALJ (c : Cht) (i : Nat) : Mk := gD (nK c) i
abbrev SK (c : Cht) : List Nt := AF (AH c).c.ns.length λ (i : Nat) => gD (AH c).c.ns i
abbrev ALQ (c : Cht) : Nat := (SK c).length
abbrev fA (c : Cht) (i : Nat) : Nt := gD (SK c) i
abbrev ATE (c : Cht) (i : Nat) : Span := (fA c i).t
abbrev AUN (c : Cht) (i : Nat) : Span := (fA c i).s
abbrev kH (c : Cht) (n : Int) : Nt := ntOf (SK c) n
abbrev BEA (c : Cht) (n : Int) : Span := (kH c n).t
abbrev AXA (c : Cht) (n : Int) : Span := (kH c n).s
abbrev jF (c : Cht) : Dk := jQ (DkZ.mk (Dk.mk (Cht.mk (AH c).c.p (AH c).c.base (AH c).c.scale (AH c).c.off (nK c) (SK c)) (AH c).st (AH c).sp) (AF (0 : Nat) λ (i : Nat) => default))
abbrev PF (c : Cht) : Cht := (jF c).c
abbrev Et (c : Cht) : List Nt := (PF c).ns
abbrev lQ (c : Cht) (n : Int) : Nt := ntOf (Et c) n
abbrev AZP (c : Cht) (n : Int) : Span := (lQ c n).t
abbrev ANW (c : Cht) (n : Int) : Span := (lQ c n).s
abbrev gM (c : Cht) : Span := (PF c).p
abbrev AXW (c : Cht) : Int := (gM c).lo
abbrev ASZ (c : Cht) : Prop := AXW c = AXW c
abbrev ANE (c : Cht) : Int := (gM c).hi
abbrev AUW (c : Cht) : Prop := ANE c = ANE c
abbrev kB (c : Cht) : Int := (PF c).base
abbrev AQU (c : Cht) : Prop := kB c = kB c
abbrev mD (c : Cht) : Int := (PF c).scale
abbrev ALF (c : Cht) : Prop := mD c = mD c
abbrev gW (c : Cht) : Int := (PF c).off
abbrev AUV (c : Cht) : Prop := gW c = gW c
abbrev AMG (c : Cht) : List Mk := (PF c).ms
abbrev Hu (c : Cht) : Nat := (AMG c).length
abbrev kT (c : Cht) (i : Nat) : Mk := gD (AMG c) i
abbrev iH (c : Cht) : List Mk := AF (Hu c) λ (i : Nat) => kT c i
abbrev PD (c : Cht) : Nat := (iH c).length
abbrev BAU (c : Cht) (i : Nat) : Mk := gD (iH c) i
abbrev AMC (c : Cht) (i : Nat) : Int := (BAU c i).pl
abbrev ARH (c : Cht) (i : Nat) : Int := (kT c i).pl
abbrev AWI (c : Cht) (i : Nat) : Int := (BAU c i).ht
abbrev AQG (c : Cht) (i : Nat) : Int := (kT c i).ht
abbrev Hd (c : Cht) : Nat := (Et c).length
abbrev Iu (c : Cht) (i : Nat) : Nt := gD (Et c) i
abbrev UP (c : Cht) : List Nt := AF (Hd c) λ (i : Nat) => Iu c i
abbrev rJ (c : Cht) : Nat := (UP c).length
abbrev mG (c : Cht) (i : Nat) : Nt := gD (UP c) i
abbrev AOH (c : Cht) (i : Nat) : Int := (mG c i).mi
abbrev BEQ (c : Cht) (i : Nat) : Int := (Iu c i).mi
abbrev AND (c : Cht) (i : Nat) : Span := (mG c i).t
abbrev vV (c : Cht) (i : Nat) : Int := (AND c i).lo
abbrev yP (c : Cht) (i : Nat) : Span := (Iu c i).t
abbrev Q4 (c : Cht) (i : Nat) : Int := (yP c i).lo
abbrev X2 (c : Cht) (i : Nat) : Int := (AND c i).hi
abbrev sQ (c : Cht) (i : Nat) : Int := (yP c i).hi
abbrev T8 (c : Cht) (i : Nat) : Span := (mG c i).s
abbrev yO (c : Cht) (i : Nat) : Int := (T8 c i).lo
abbrev U8 (c : Cht) (i : Nat) : Span := (Iu c i).s
abbrev vF (c : Cht) (i : Nat) : Int := (U8 c i).lo
abbrev uC (c : Cht) (i : Nat) : Int := (T8 c i).hi
abbrev N1 (c : Cht) (i : Nat) : Int := (U8 c i).hi
abbrev Og (c : Cht) (n : Int) : Bool := hasN (UP c) n
abbrev Px (c : Cht) (n : Int) : Nt := ntOf (UP c) n
abbrev xT (c : Cht) (n : Int) : Int := (Px c n).mi
abbrev A4 (c : Cht) (n : Int) : Span := (Px c n).t
abbrev yV (c : Cht) (n : Int) : Int := (A4 c n).lo
abbrev xY (c : Cht) (n : Int) : Int := (A4 c n).hi
abbrev vK (c : Cht) (n : Int) : Span := (Px c n).s
abbrev sY (c : Cht) (n : Int) : Int := (vK c n).lo
abbrev N7 (c : Cht) (n : Int) : Int := (vK c n).hi
abbrev VY (c : Cht) : Prop := (fwO c).q.length = (0 : Nat)
abbrev YV (c : Cht) : Prop := (fwO c).r.length = (0 : Nat)
theorem DJE (c : Cht) : (DIN c) = ((c.p.lo = c.p.lo /\ c.p.hi = c.p.hi /\ c.base = c.base /\ c.scale = c.scale /\ c.off = c.off /\ BRE c /\ CBC c /\ BPY c /\ ASA c /\ (aW c < (4611686018427387904
 : Nat) /\ aD c < (4611686018427387904 : Nat)) /\ AM (AZE c) = (0 : Int)) /\ (∃ (a : One), (JL /\ PB /\ (↑c.ns.length : Int) = (↑c.ns.length : Int) /\ rO /\ c.p.lo = c.p.lo /\ c.p.hi = c.p.hi
 /\ c.base = c.base /\ c.scale = c.scale /\ c.off = c.off /\ AWG c /\ AKL c /\ BHB c /\ AKK c /\ (AH c).c.p.lo = (BGH c).lo /\ (AH c).c.p.hi = (BGH c).hi /\ (AH c).c.base = (MT
 c).base /\ (AH c).c.scale = (MT c).scale /\ (AH c).c.off = (MT c).off /\ (AH c).c.ms.length = (BDM c).length /\ (∀ (i : Nat), AUT i c -> (gD (AH c).c.ms i).pl = (BCA c i).pl /\ (gD (AH
 c).c.ms i).ht = (BCA c i).ht) /\ (AH c).c.ns.length = (It c).length /\ (∀ (i : Nat), API i c -> (gD (AH c).c.ns i).mi = (kC c i).mi /\ Em c i = (ANN c i).lo /\ Ho c i =
 (ANN c i).hi /\ Fx c i = (BGA c i).lo /\ Ec c i = (BGA c i).hi) /\ UH /\ AO = AO /\ (∀ (n : Int), hasN (AH c).c.ns n = hasN (It c) n) /\ (∀ (n : Int), (AH c).st n =
 (AVM c).st n) /\ ∀ (n : Int), (ntOf (AH c).c.ns n).mi = (iK c n).mi /\ (ntOf (AH c).c.ns n).t.lo = (AOO c n).lo /\ (ntOf (AH c).c.ns n).t.hi = (AOO c n).hi /\ (ntOf (AH c).c.ns n).s.lo =
 (AYN c n).lo /\ (ntOf (AH c).c.ns n).s.hi = (AYN c n).hi) /\ Hy c) /\ ∀ (a : One), Hy c -> bif decide ((↑(0 : Nat) : Int) < (↑c.ns.length : Int)) then ((True /\ ((0 : Nat) < (0 : Nat) -> (0 : Nat) =
 (1 : Nat))) /\ ((1 : Nat) <= (1 : Nat) /\ (ASJ -> (1 : Nat) = (1 : Nat))) /\ (false = true -> ASJ) /\ (1 : Nat) <= (9223372036854775807 : Nat) /\ (8 : Nat) <= (140737488355328 : Nat)) /\ False else (JL /\
 PB /\ c.p.lo = c.p.lo /\ c.p.hi = c.p.hi /\ c.base = c.base /\ c.scale = c.scale /\ c.off = c.off /\ BRE c /\ CBC c /\ BPY c /\ ASA c /\ c.p.lo = c.p.lo /\ c.p.hi = c.p.hi /\ c.base = c.base /\ c.scale =
 c.scale /\ c.off = c.off /\ c.ms.length = aW c /\ (∀ (i : Nat), i < c.ms.length -> (gD c.ms i).pl = BPW c i /\ (gD c.ms i).ht = BXY c i) /\ c.ns.length = aD c /\ ∀ (i : Nat), i < c.ns.length -> (gD c.ns
 i).mi = AZQ c i /\ (gD c.ns i).t.lo = ATB c i /\ (gD c.ns i).t.hi = ASK c i /\ (gD c.ns i).s.lo = BAZ c i /\ (gD c.ns i).s.hi = APU c i) /\ (∃ (a : One), (JL /\ PB /\ JL /\
 PB /\ JL /\ PB /\ Int.negSucc (0 : Nat) = Int.negSucc (0 : Nat) /\ JL /\ PB /\ rO /\ rO /\ c.p.lo = c.p.lo /\ c.p.hi = c.p.hi /\ c.base = c.base /\ c.scale = c.scale /\ c.off = c.off
 /\ AWG c /\ AKL c /\ BHB c /\ AKK c /\ BGW c /\ BFE c /\ ANS c /\ AQV c /\ ALB c /\ (AH c).c.ms.length = (AH c).c.ms.length /\ (∀ (i : Nat), AUT i c -> (gD (AH
 c).c.ms i).pl = (gD (AH c).c.ms i).pl /\ (gD (AH c).c.ms i).ht = (gD (AH c).c.ms i).ht) /\ (AH c).c.ns.length = (AH c).c.ns.length /\ (∀ (i : Nat), API i c -> (gD (AH c).c.ns i).mi = (gD (AH c).c.ns i).mi
 /\ Em c i = Em c i /\ Ho c i = Ho c i /\ Fx c i = Fx c i /\ Ec c i = Ec c i) /\ UH /\ AO = AO /\ (∀ (n : Int), hasN (AH c).c.ns n = hasN (AH c).c.ns n) /\
 Hi c /\ ∀ (n : Int), (ntOf (AH c).c.ns n).mi = (ntOf (AH c).c.ns n).mi /\ (ntOf (AH c).c.ns n).t.lo = (ntOf (AH c).c.ns n).t.lo /\ (ntOf (AH c).c.ns n).t.hi = (ntOf (AH c).c.ns n).t.hi /\ (ntOf (AH
 c).c.ns n).s.lo = (ntOf (AH c).c.ns n).s.lo /\ (ntOf (AH c).c.ns n).s.hi = (ntOf (AH c).c.ns n).s.hi) /\ Hy c) /\ ∀ (a : One), Hy c -> (JL /\ JL /\ BGW c /\ BFE c /\ ANS c /\
 AQV c /\ ALB c /\ mJ c = (AH c).c.ms.length /\ (∀ (i : Nat), i < mJ c -> (ALJ c i).pl = (gD (AH c).c.ms i).pl /\ (ALJ c i).ht = (gD (AH c).c.ms i).ht) /\ ALQ c = (AH
 c).c.ns.length /\ (∀ (i : Nat), i < ALQ c -> (fA c i).mi = (gD (AH c).c.ns i).mi /\ (ATE c i).lo = Em c i /\ (ATE c i).hi = Ho c i /\ (AUN c i).lo = Fx c i /\ (AUN c
 i).hi = Ec c i) /\ UH /\ AO = AO /\ (∀ (n : Int), hasN (SK c) n = hasN (AH c).c.ns n) /\ Hi c /\ (∀ (n : Int), (kH c n).mi = (ntOf (AH c).c.ns n).mi /\ (BEA c n).lo = (ntOf (AH
 c).c.ns n).t.lo /\ (BEA c n).hi = (ntOf (AH c).c.ns n).t.hi /\ (AXA c n).lo = (ntOf (AH c).c.ns n).s.lo /\ (AXA c n).hi = (ntOf (AH c).c.ns n).s.hi) /\ AO = AO /\ (∀ (n : Int), hasN (AH c).c.ns n =
 hasN (Et c) n) /\ (∀ (n : Int), (AH c).st n = (jF c).st n) /\ (∀ (n : Int), (ntOf (AH c).c.ns n).mi = (lQ c n).mi /\ (ntOf (AH c).c.ns n).t.lo = (AZP c n).lo /\ (ntOf (AH c).c.ns n).t.hi =
 (AZP c n).hi /\ (ntOf (AH c).c.ns n).s.lo = (ANW c n).lo /\ (ntOf (AH c).c.ns n).s.hi = (ANW c n).hi) /\ (0 : Nat) < (4611686018427387904 : Nat) /\ mJ c <= (40 : Nat)) /\ (ASZ c /\ AUW c
 /\ AQU c /\ ALF c /\ AUV c /\ PD c = Hu c /\ (∀ (i : Nat), i < PD c -> AMC c i = ARH c i /\ AWI c i = AQG c i) /\ rJ c = Hd c /\ (∀ (i : Nat), i <
 rJ c -> AOH c i = BEQ c i /\ vV c i = Q4 c i /\ X2 c i = sQ c i /\ yO c i = vF c i /\ uC c i = N1 c i) /\ UH /\ AO = AO /\ (∀ (n : Int),
 Og c n = hasN (AH c).c.ns n) /\ Hi c /\ (∀ (n : Int), xT c n = (ntOf (AH c).c.ns n).mi /\ yV c n = (ntOf (AH c).c.ns n).t.lo /\ xY c n = (ntOf (AH c).c.ns n).t.hi /\ sY c
 n = (ntOf (AH c).c.ns n).s.lo /\ N7 c n = (ntOf (AH c).c.ns n).s.hi) /\ ASZ c /\ AUW c /\ AQU c /\ ALF c /\ AUV c /\ Hu c = PD c /\ (∀ (i : Nat), i < Hu c ->
 ARH c i = AMC c i /\ AQG c i = AWI c i) /\ Hd c = rJ c /\ (∀ (i : Nat), i < Hd c -> BEQ c i = AOH c i /\ Q4 c i = vV c i /\ sQ c i = X2 c
 i /\ vF c i = yO c i /\ N1 c i = uC c i) /\ UH /\ AO = AO /\ (∀ (n : Int), hasN (AH c).c.ns n = Og c n) /\ Hi c /\ (∀ (n : Int), (ntOf (AH c).c.ns n).mi = xT c
 n /\ (ntOf (AH c).c.ns n).t.lo = yV c n /\ (ntOf (AH c).c.ns n).t.hi = xY c n /\ (ntOf (AH c).c.ns n).s.lo = sY c n /\ (ntOf (AH c).c.ns n).s.hi = N7 c n) /\ (1 : Nat) <= PD c /\
 PD c <= (40 : Nat) /\ ∀ (j : Int), Og c j = true -> (0 : Int) <= j /\ j < (↑(PD c) : Int)) /\ bif !(AZ (Dk.mk (Cht.mk (gM c) (kB c) (mD c) (gW c) (iH c) (UP
 c)) (AH c).st (jF c).sp)).snd then VY c /\ VY c /\ YV c /\ YV c /\ (fwO c).e = (6 : Int) else VY c /\ VY c /\ YV c /\ YV c /\ (fwO c).e = (0 : Int)) := by
 kernel_rfl
def DFO : Ann := ann 101 [(HW, C_openX.spec dC1)]
def DGD (c : Cht) : Prop := BA Try.prog DFO XQ (AL XQ) [.d (XK c)] (AG []) (.tup [.d (BB nilI), .d (Ij nilP), .int (AM c)]) [] [] []
theorem DJB (c : Cht) : (DGD c) = ((c.p.lo = c.p.lo /\ c.p.hi = c.p.hi /\ c.base = c.base /\ c.scale = c.scale /\ c.off = c.off /\ (AF c.ms.length λ (i : Nat) => gD c.ms i).length = c.ms.length /\ (∀ (i : Nat), i <
 (AF c.ms.length λ (i : Nat) => gD c.ms i).length -> (gD (AF c.ms.length λ (i : Nat) => gD c.ms i) i).pl = (gD c.ms i).pl /\ (gD (AF c.ms.length λ (i : Nat) => gD c.ms i) i).ht = (gD c.ms i).ht) /\ (AF c.ns.length
 λ (i : Nat) => gD c.ns i).length = c.ns.length /\ (∀ (i : Nat), i < (AF c.ns.length λ (i : Nat) => gD c.ns i).length -> (gD (AF c.ns.length λ (i : Nat) => gD c.ns i) i).mi = (gD c.ns i).mi /\ (gD (AF c.ns.length
 λ (i : Nat) => gD c.ns i) i).t.lo = (gD c.ns i).t.lo /\ (gD (AF c.ns.length λ (i : Nat) => gD c.ns i) i).t.hi = (gD c.ns i).t.hi /\ (gD (AF c.ns.length λ (i : Nat) => gD c.ns i) i).s.lo = (gD c.ns i).s.lo /\ (gD
 (AF c.ns.length λ (i : Nat) => gD c.ns i) i).s.hi = (gD c.ns i).s.hi) /\ ((AF c.ms.length λ (i : Nat) => gD c.ms i).length < 4611686018427387904 /\ (AF c.ns.length λ (i : Nat) => gD c.ns i).length <
 4611686018427387904) /\ AM (Cht.mk c.p c.base c.scale c.off (AF c.ms.length λ (i : Nat) => gD c.ms i) (AF c.ns.length λ (i : Nat) => gD c.ns i)) ≠ 0) /\ bif AM (Cht.mk c.p c.base c.scale c.off (AF
 c.ms.length λ (i : Nat) => gD c.ms i) (AF c.ns.length λ (i : Nat) => gD c.ns i)) != 0 then 0 = 0 /\ 0 = 0 /\ 0 = 0 /\ 0 = 0 /\ AM c = AM (Cht.mk c.p c.base c.scale c.off (AF c.ms.length λ (i : Nat) => gD c.ms
 i) (AF c.ns.length λ (i : Nat) => gD c.ns i)) else False) := by kernel_rfl
theorem DSE (c : Cht) (h1 : c.ms.length < 4611686018427387904 /\ c.ns.length < 4611686018427387904) (h0 : AM c = 0) (hn : c.ns.length = 0) : DIN c := by
 have hl := DG h0
 have hs := SB h0
 rw [DJE]; delta AHP aW BRE BSO BPW BXY CBC AGT aD BPY fV AZQ ALE ATB ASK ANO BAZ APU ASA AZE JL PB rO AWG AKL BHB AKK AVM MT BGH BDM AUT BCA It API kC Em ANN Ho Fx BGA Ec UH iK AOO AYN Hy ASJ BGW BFE ANS AQV ALB Hi nK mJ ALJ SK ALQ fA ATE AUN kH BEA AXA jF PF Et lQ AZP ANW gM AXW ASZ ANE AUW kB AQU mD ALF gW AUV AMG Hu kT iH PD BAU AMC ARH AWI AQG Hd Iu UP rJ mG AOH BEQ AND vV yP Q4 X2 sQ T8 yO U8 vF uC N1 Og Px xT A4 yV xY vK sY N7 VY YV; simp only [AU, eq_self, implies_true, and_self, true_and, and_true, true_implies, forall_const, decide_eq_true_eq, decide_eq_false_iff_not, Int.toNat_natCast, dSpan_eSpan, dInt_eInt, AY, AW, AX, Nat.zero_add, Int.zero_sub, Nat.le_eq, Nat.succ_eq_add_one, Nat.add_one_le_iff, Bool.not_eq_true', Bool.not_eq_false', rng_length, AK, AJ, BI, BBK, RO, CSK, BWH]
 have hq : (sH c).q = [] := by unfold sH; rw [hn]; rfl
 have hr : (sH c).r = [] := by unfold sH; rw [hn]; rfl
 refine ⟨⟨h1, h0⟩, ⟨default, hn⟩, λ _ => ⟨λ h => by omega, λ _ => ⟨⟨default, hn⟩, λ _ => ⟨⟨λ n => rfl, by decide, hl.2.1.2⟩, ⟨hl.2.1.1, hl.2.1.2, hs.1⟩, λ hc => ?_, λ hc => ?_⟩⟩⟩⟩
 ·have hc : (AZ (jQ ⟨AH c, []⟩)).2 = false := hc
  have hc : (AZ (fwW c)).2 = false := by unfold fwW; rw [hq]; exact hc
  unfold fwO; rw [hc]; exact ⟨rfl, rfl, rfl, rfl, rfl⟩
 ·have hc : (AZ (jQ ⟨AH c, []⟩)).2 = true := hc
  have hc : (AZ (fwW c)).2 = true := by unfold fwW; rw [hq]; exact hc
  unfold fwO; rw [hc]
  exact ⟨by show (sH c).q.length = 0; rw [hq]; rfl, by show (sH c).q.length = 0; rw [hq]; rfl, by show (sH c).r.length = 0; rw [hr]; rfl, by show (sH c).r.length = 0; rw [hr]; rfl, rfl⟩
theorem DBO : AN Try.prog BVW (C_few.spec dC1) := okT C_few (λ (c : Cht) h => by
 obtain ⟨h1, h2⟩ : (c.ms.length < 4611686018427387904 /\ c.ns.length < 4611686018427387904) /\ (AM c = 0 -> c.ns.length <= 12) := h
 by_cases h0 : AM c = 0
 ·have e : C_few.val c = .tup [.d (BB (fwO c).q), .d (Ij (fwO c).r), .int (fwO c).e] := by
   show AVal.tup [.d (BB (JX c).q), .d (Ij (JX c).r), .int (JX c).e] = _
   unfold JX; rw [h0]; rfl
  rw [e]
  rcases Nat.eq_zero_or_pos c.ns.length with hz | hp
  ·exact PJ (A := DFE c) (L := []) (keep := []) (ren := []) (fz := []) BAH (by kernel_rfl) (AD AHN (AD DHZ (AD CJE (AD AGA AI)))) (DSE c h1 h0 hz)
  ·exact PJ (A := DOJ c) (L := []) (keep := []) (ren := []) (fz := []) BAH (by kernel_rfl) (AD AHN (AD DJQ (AD CWY (AD CJE (AD AGA AI))))) (DTK c h1 h0 ⟨hp, h2 h0⟩)
 ·have h0' : (AM c == 0) = false := by simpa using h0
  have e : C_few.val c = .tup [.d (BB nilI), .d (Ij nilP), .int (AM c)] := by
   show AVal.tup [.d (BB (JX c).q), .d (Ij (JX c).r), .int (JX c).e] = _
   unfold JX; rw [h0']; rfl
  rw [e]
  refine PJ (A := DFO) (L := []) (keep := []) (ren := []) (fz := []) BAH (by kernel_rfl) (AD AEM AI) ?_
  show DGD c; rw [DJB]; simp only [AU, eq_self, implies_true, and_self, true_and, and_true, true_implies, forall_const, decide_eq_true_eq, decide_eq_false_iff_not, Int.toNat_natCast, dSpan_eSpan, dInt_eInt, AY, AW, AX, Nat.zero_add, Int.zero_sub, Nat.le_eq, Nat.succ_eq_add_one, Nat.add_one_le_iff, Bool.not_eq_true', Bool.not_eq_false', rng_length, AK, AJ, BI]
  simp [h1, h0, nilI, nilP]) _
def C_Stops : Ctr := { α := Cht, xs := λ c => [.d (XK c)], val := λ c => .tup [.d (BB (JX c).q), .int (JX c).e], keep := λ _ => [], pre := λ c => [(c.ms.length < 4611686018427387904 /\ c.ns.length < 4611686018427387904) /\ (AM c = 0 -> c.ns.length <= 12)] }
def BJH : Ann := ann 15 [(BVW, C_few.spec dC1)]
def CYI (c : Cht) : Prop := BA Try.prog BJH CML (AL CML) [.d (XK c)] (AG []) (C_Stops.val c) [] [] []
theorem DIG (c : Cht) : (CYI c) = ((c.p.lo = c.p.lo /\ c.p.hi = c.p.hi /\ c.base = c.base /\ c.scale = c.scale /\ c.off = c.off /\ (AF c.ms.length λ (i : Nat) => gD c.ms i).length = c.ms.length /\ (∀ (i : Nat), i <
 (AF c.ms.length λ (i : Nat) => gD c.ms i).length -> (gD (AF c.ms.length λ (i : Nat) => gD c.ms i) i).pl = (gD c.ms i).pl /\ (gD (AF c.ms.length λ (i : Nat) => gD c.ms i) i).ht = (gD c.ms i).ht) /\ (AF c.ns.length
 λ (i : Nat) => gD c.ns i).length = c.ns.length /\ (∀ (i : Nat), i < (AF c.ns.length λ (i : Nat) => gD c.ns i).length -> (gD (AF c.ns.length λ (i : Nat) => gD c.ns i) i).mi = (gD c.ns i).mi /\ (gD (AF c.ns.length
 λ (i : Nat) => gD c.ns i) i).t.lo = (gD c.ns i).t.lo /\ (gD (AF c.ns.length λ (i : Nat) => gD c.ns i) i).t.hi = (gD c.ns i).t.hi /\ (gD (AF c.ns.length λ (i : Nat) => gD c.ns i) i).s.lo = (gD c.ns i).s.lo /\ (gD
 (AF c.ns.length λ (i : Nat) => gD c.ns i) i).s.hi = (gD c.ns i).s.hi) /\ ((AF c.ms.length λ (i : Nat) => gD c.ms i).length < 4611686018427387904 /\ (AF c.ns.length λ (i : Nat) => gD c.ns i).length <
 4611686018427387904) /\ (AM (Cht.mk c.p c.base c.scale c.off (AF c.ms.length λ (i : Nat) => gD c.ms i) (AF c.ns.length λ (i : Nat) => gD c.ns i)) = 0 -> (AF c.ns.length λ (i : Nat) => gD c.ns i).length <= 12))
 /\ (JX c).q.length = (JX (Cht.mk c.p c.base c.scale c.off (AF c.ms.length λ (i : Nat) => gD c.ms i) (AF c.ns.length λ (i : Nat) => gD c.ns i))).q.length /\ (∀ (i : Nat), i < (JX c).q.length -> gD (JX c).q i =
 gD (JX (Cht.mk c.p c.base c.scale c.off (AF c.ms.length λ (i : Nat) => gD c.ms i) (AF c.ns.length λ (i : Nat) => gD c.ns i))).q i) /\ (JX c).e = (JX (Cht.mk c.p c.base c.scale c.off (AF c.ms.length λ (i :
 Nat) => gD c.ms i) (AF c.ns.length λ (i : Nat) => gD c.ns i))).e) := by kernel_rfl
theorem DEQ : AN Try.prog CJU (C_Stops.spec dC1) := MB C_Stops (λ _ => BJH) [] [] DCJ (λ _ => by kernel_rfl) (λ _ => AD DBO AI) (λ (c : Cht) h => by
 show CYI c; rw [DIG]; simp only [AU, eq_self, implies_true, and_self, true_and, and_true, true_implies, forall_const, decide_eq_true_eq, decide_eq_false_iff_not, Int.toNat_natCast, dSpan_eSpan, dInt_eInt, AY, AW, AX, Nat.zero_add, Int.zero_sub, Nat.le_eq, Nat.succ_eq_add_one, Nat.add_one_le_iff, Bool.not_eq_true', Bool.not_eq_false', rng_length, AK, AJ, BI]; exact h) (λ _ => OS rfl rfl) _
def C_Pairs : Ctr := { α := Cht, xs := λ c => [.d (XK c)], val := λ c => .tup [.d (Ij (JX c).r), .int (JX c).e], keep := λ _ => [], pre := λ c => [(c.ms.length < 4611686018427387904 /\ c.ns.length < 4611686018427387904) /\ (AM c = 0 -> c.ns.length <= 12)] }
def CWP (c : Cht) : Prop := BA Try.prog BJH CHB (AL CHB) [.d (XK c)] (AG []) (C_Pairs.val c) [] [] []
theorem DFG (c : Cht) : (CWP c) = ((c.p.lo = c.p.lo /\ c.p.hi = c.p.hi /\ c.base = c.base /\ c.scale = c.scale /\ c.off = c.off /\ (AF c.ms.length λ (i : Nat) => gD c.ms i).length = c.ms.length /\ (∀ (i : Nat), i <
 (AF c.ms.length λ (i : Nat) => gD c.ms i).length -> (gD (AF c.ms.length λ (i : Nat) => gD c.ms i) i).pl = (gD c.ms i).pl /\ (gD (AF c.ms.length λ (i : Nat) => gD c.ms i) i).ht = (gD c.ms i).ht) /\ (AF c.ns.length
 λ (i : Nat) => gD c.ns i).length = c.ns.length /\ (∀ (i : Nat), i < (AF c.ns.length λ (i : Nat) => gD c.ns i).length -> (gD (AF c.ns.length λ (i : Nat) => gD c.ns i) i).mi = (gD c.ns i).mi /\ (gD (AF c.ns.length
 λ (i : Nat) => gD c.ns i) i).t.lo = (gD c.ns i).t.lo /\ (gD (AF c.ns.length λ (i : Nat) => gD c.ns i) i).t.hi = (gD c.ns i).t.hi /\ (gD (AF c.ns.length λ (i : Nat) => gD c.ns i) i).s.lo = (gD c.ns i).s.lo /\ (gD
 (AF c.ns.length λ (i : Nat) => gD c.ns i) i).s.hi = (gD c.ns i).s.hi) /\ ((AF c.ms.length λ (i : Nat) => gD c.ms i).length < 4611686018427387904 /\ (AF c.ns.length λ (i : Nat) => gD c.ns i).length <
 4611686018427387904) /\ (AM (Cht.mk c.p c.base c.scale c.off (AF c.ms.length λ (i : Nat) => gD c.ms i) (AF c.ns.length λ (i : Nat) => gD c.ns i)) = 0 -> (AF c.ns.length λ (i : Nat) => gD c.ns i).length <= 12))
 /\ (JX c).r.length = (JX (Cht.mk c.p c.base c.scale c.off (AF c.ms.length λ (i : Nat) => gD c.ms i) (AF c.ns.length λ (i : Nat) => gD c.ns i))).r.length /\ (∀ (i : Nat), i < (JX c).r.length -> (gD (JX c).r
 i).a = (gD (JX (Cht.mk c.p c.base c.scale c.off (AF c.ms.length λ (i : Nat) => gD c.ms i) (AF c.ns.length λ (i : Nat) => gD c.ns i))).r i).a /\ (gD (JX c).r i).b = (gD (JX (Cht.mk c.p c.base c.scale c.off (AF
 c.ms.length λ (i : Nat) => gD c.ms i) (AF c.ns.length λ (i : Nat) => gD c.ns i))).r i).b) /\ (JX c).e = (JX (Cht.mk c.p c.base c.scale c.off (AF c.ms.length λ (i : Nat) => gD c.ms i) (AF c.ns.length λ (i :
 Nat) => gD c.ns i))).e) := by kernel_rfl
theorem DCP : AN Try.prog CNC (C_Pairs.spec dC1) := MB C_Pairs (λ _ => BJH) [] [] DFS (λ _ => by kernel_rfl) (λ _ => AD DBO AI) (λ (c : Cht) h => by
 show CWP c; rw [DFG]; simp only [AU, eq_self, implies_true, and_self, true_and, and_true, true_implies, forall_const, decide_eq_true_eq, decide_eq_false_iff_not, Int.toNat_natCast, dSpan_eSpan, dInt_eInt, AY, AW, AX, Nat.zero_add, Int.zero_sub, Nat.le_eq, Nat.succ_eq_add_one, Nat.add_one_le_iff, Bool.not_eq_true', Bool.not_eq_false', rng_length, AK, AJ, BI]; exact h) (λ _ => OS rfl rfl) _
end Go.Bal
