/- Package chart: the fewest stops. -/
import Derived.Test.YtdbjalgfomknhaaChJ
import Derived.Test.YtdbjalgfomknhaaChS
set_option linter.unusedVariables false
set_option linter.unusedSimpArgs false
namespace Go.Bal
open Go Go.Sym Go.Proofs
def idL (n : Nat) : List Int := AE n λ i => (i : Int)
def AY (c : Cht) : List Int := stM (ID c) (idL c.ns.length)
structure FwS where
 la : Int
 q : List Int
 r : List Pr
 deriving Inhabited
def miA (c : Cht) (a : Int) : Int := (gD c.ns a.toNat).mi
def fwP (c : Cht) (la b a : Int) : Bool := bif decide (miA c a > la) then RJ c ⟨a, b⟩ else false
def fwN (c : Cht) (s : FwS) (b : Int) : Option Int -> FwS
 | none => s
 | some a => ⟨wr (miA c b - 1), s.q ++ [wr (miA c b - 1)], s.r ++ [⟨a, b⟩]⟩
def CN (c : Cht) : Nat -> FwS
 | 0 => ⟨-1, [], []⟩
 | k + 1 => fwN c (CN c k) (gD (AY c) k) (((AY c).take k).find? (fwP c (CN c k).la (gD (AY c) k)))
def Af (c : Cht) : FwS := CN c c.ns.length
def fwW (c : Cht) : Dk := lA ⟨AG c, (Af c).q⟩
structure FwR where
 q : List Int
 r : List Pr
 e : Int
def rM : List Int := []
def nilP : List Pr := []
def K8 (c : Cht) : FwR := bif (AX (fwW c)).2 then ⟨(Af c).q, (Af c).r, 0⟩ else ⟨rM, nilP, 6⟩
def CJ (c : Cht) : FwR := bif AO c == 0 then K8 c else ⟨rM, nilP, AO c⟩
def C_few : Ctr := { α := Cht, xs := λ c => [.d (VZ c)], val := λ c => .tup [.d (CI (CJ c).q), .d (Ga (CJ c).r), .int (CJ c).e], keep := λ _ => [], pre := λ c => [(c.ms.length < 4611686018427387904 /\ c.ns.length < 4611686018427387904) /\ (AO c = 0 -> c.ns.length <= 12)] }
def fwH (c : Cht) : List (Nat × HCell) := [(201, .live (chB c)), (203, .live (dkB (AG c) 204)), (204, .live (dkM (AG c)))]
def fw6S (c : Cht) (k : Nat) : List (Nat × AVal) := [(1, .bptr 201 0), (5, .bptr 203 0), (29, .int c.ns.length), (30, .int k)]
def fwR : List (Nat × Nat) := [(201, 1000), (203, 2016), (204, 2017)]
def fw6n (c : Cht) : Shape := { α := One, dflt := default, T := λ _ => ⟨(7, .d GE) :: fw6S c 0, fwH c⟩, inv := λ _ => True, meas := λ _ => 60, first := fwR }
def fw6o (c : Cht) : Shape := { α := Nat, dflt := 0, T := λ k => ⟨(7, .own 202 1 0 k) :: fw6S c k, fwH c ++ [(202, .live (.row 1 k λ i => FV i))]⟩, inv := λ k => 1 <= k /\ k <= c.ns.length, meas := λ k => 50 - k, again := [(202, 9048)] }
def fwB (c : Cht) : List (Nat × AVal) := [(1, .bptr 201 0), (5, .bptr 203 0), (7, .d (CI (AY c)))]
def fw11 (c : Cht) (z : List Nat) : Shape := { α := One, dflt := default, T := λ _ => ⟨fwB c, fwH c⟩, inv := λ _ => True, meas := λ _ => 0, ffz := z }
def fwT (c : Cht) (k : Nat) : List (Nat × AVal) := fwB c ++ [(11, .int (CN c k).la), (41, .d (CI (AY c))), (42, .int c.ns.length), (43, .int k)]
def fwY (c : Cht) (k : Nat) : List (Nat × HCell) := fwH c ++ [(301, .live (.row 1 (CN c k).q.length λ i => FV (gD (CN c k).q i))), (302, .live (.row 2 (CN c k).r.length λ i => ePr (gD (CN c k).r i)))]
def CVB : List (Nat × AVal) := [(9, .d GE), (10, .d GE)]
def CYU (c : Cht) (k : Nat) : List (Nat × AVal) := [(9, .own 301 1 0 (CN c k).q.length), (10, .own 302 2 0 (CN c k).r.length)]
def DQB (c : Cht) : Shape := { α := Nat, dflt := 0, T := λ k => ⟨CVB ++ fwT c k, fwH c⟩, inv := λ k => k <= c.ns.length /\ (CN c k).q = [], meas := λ k => c.ns.length - k, tag := [0] }
def DQO (c : Cht) : Shape := { α := Nat, dflt := 0, T := λ k => ⟨CYU c k ++ fwT c k, fwY c k⟩, inv := λ k => k <= c.ns.length /\ 1 <= (CN c k).q.length, meas := λ k => c.ns.length - k, tag := [1] }
def fwJ (c : Cht) (k j : Nat) : List (Nat × AVal) := [(13, .int (gD (AY c) k)), (50, .d (CI ((AY c).take k))), (51, .int k), (52, .int j)]
def DRG (c : Cht) (m : Nat) : Shape := { α := IJ, dflt := default, T := λ s => ⟨fwJ c s.i s.j ++ (CVB ++ fwT c s.i), fwH c⟩, inv := λ s => (s.i < c.ns.length /\ c.ns.length - s.i = m /\ s.j <= s.i /\ ∀ t, t < s.j -> fwP c (CN c s.i).la (gD (AY c) s.i) (gD (AY c) t) = false) /\ (CN c s.i).q = [], meas := λ s => c.ns.length - s.j }
def DRS (c : Cht) (m : Nat) : Shape := { α := IJ, dflt := default, T := λ s => ⟨fwJ c s.i s.j ++ (CYU c s.i ++ fwT c s.i), fwY c s.i⟩, inv := λ s => (s.i < c.ns.length /\ c.ns.length - s.i = m /\ s.j <= s.i /\ ∀ t, t < s.j -> fwP c (CN c s.i).la (gD (AY c) s.i) (gD (AY c) t) = false) /\ 1 <= (CN c s.i).q.length, meas := λ s => c.ns.length - s.j }
def fwT2 (c : Cht) (k : Nat) : List (Nat × AVal) := fwB c ++ [(11, .int (CN c (k + 1)).la), (41, .d (CI (AY c))), (42, .int c.ns.length), (43, .int k)]
def DQJ (c : Cht) (m : Nat) : Shape := { α := Nat, dflt := 0, T := λ k => ⟨CVB ++ fwT2 c k, fwH c⟩, inv := λ k => k < c.ns.length /\ c.ns.length - k = m /\ (CN c (k + 1)).q = [], meas := λ _ => 0 }
def DEA (c : Cht) (m : Nat) (f : List (Nat × Nat)) : Shape := { α := Nat, dflt := 0, T := λ k => ⟨CYU c (k + 1) ++ fwT2 c k, fwY c (k + 1)⟩, inv := λ k => k < c.ns.length /\ c.ns.length - k = m /\ 1 <= (CN c (k + 1)).q.length, meas := λ _ => 0, first := f }
def fw26 (c : Cht) (z : List Nat) : Shape := { α := One, dflt := default, T := λ _ => ⟨[(5, .bptr 203 0), (9, .d (CI (Af c).q)), (10, .d (Ga (Af c).r))], [(203, .live (dkB (AG c) 204)), (204, .live (dkM (AG c)))]⟩, inv := λ _ => True, meas := λ _ => 0, ffz := z }
def fw10 (c : Cht) : Shape := { α := One, dflt := default, T := λ _ => ⟨[(1, .bptr 201 0), (5, .bptr 203 0), (7, .own 202 1 0 c.ns.length)], fwH c ++ [(202, .live (.row 1 c.ns.length λ i => FV i))]⟩, inv := λ _ => 1 <= c.ns.length, meas := λ _ => 0 }
def DMS (c : Cht) : Ann := { ann 101 [(HG, C_open.spec dC1), (AEZ, C_sort.spec dGLt), (CKU, C_late.spec dDkP), (BRU, C_stop.spec dDkZ), (P6, C_times.spec dDk1)] with mt := λ id => id == 8 || id == 23, loops := λ id => if id = 6 then some [fw6n c, fw6o c] else if id = 15 then some [DQB c, DQO c] else none, inner := λ gs id => if id = 18 then (if gs.getD 1 0 = 0 then some [DRG c (gs.getD 0 0)] else some [DRS c (gs.getD 0 0)]) else none, cut := λ id => if id = 10 then some [fw10 c] else if id = 11 then some [fw11 c [202]] else if id = 26 then some [fw26 c [], fw26 c [301, 302]] else none, cutIn := λ gs id => if id = 25 then (if gs.getD 1 0 = 0 then some [DQJ c (gs.getD 0 0), DEA c (gs.getD 0 0) [(301, 24048), (302, 24112)]] else some [DEA c (gs.getD 0 0) [(301, 24048), (302, 24112)], DEA c (gs.getD 0 0) []]) else none }
def DMP (c : Cht) : Prop := AZ Try.prog (DMS c) VC (AN VC) [.d (VZ c)] (AF []) (.tup [.d (CI (K8 c).q), .d (Ga (K8 c).r), .int (K8 c).e]) [] [] []
abbrev BIL (c : Cht) : List Mk := AE c.ms.length λ (i : Nat) => gD c.ms i
abbrev ABG (c : Cht) : Nat := (BIL c).length
abbrev CLD (c : Cht) : Prop := ABG c = c.ms.length
abbrev CES (c : Cht) (i : Nat) : Mk := gD (BIL c) i
abbrev CIJ (c : Cht) (i : Nat) : Int := (CES c i).pl
abbrev CJW (c : Cht) (i : Nat) : Int := (CES c i).ht
abbrev CDQ (c : Cht) : Prop := ∀ (i : Nat), i < ABG c -> CIJ c i = (gD c.ms i).pl /\ CJW c i = (gD c.ms i).ht
abbrev BIU (c : Cht) : List Nt := AE c.ns.length λ (i : Nat) => gD c.ns i
abbrev qR (c : Cht) : Nat := (BIU c).length
abbrev CGX (c : Cht) : Prop := qR c = c.ns.length
abbrev ACY (c : Cht) (i : Nat) : Nt := gD (BIU c) i
abbrev BVG (c : Cht) (i : Nat) : Int := (ACY c i).mi
abbrev BSJ (c : Cht) (i : Nat) : Span := (ACY c i).t
abbrev BOO (c : Cht) (i : Nat) : Int := (BSJ c i).lo
abbrev BZK (c : Cht) (i : Nat) : Int := (BSJ c i).hi
abbrev BWD (c : Cht) (i : Nat) : Span := (ACY c i).s
abbrev BMM (c : Cht) (i : Nat) : Int := (BWD c i).lo
abbrev BMN (c : Cht) (i : Nat) : Int := (BWD c i).hi
abbrev BSS (c : Cht) : Prop := ∀ (i : Nat), i < qR c -> BVG c i = (gD c.ns i).mi /\ BOO c i = (gD c.ns i).t.lo /\ BZK c i = (gD c.ns i).t.hi /\ BMM c i = (gD c.ns i).s.lo /\ BMN c i = (gD
 c.ns i).s.hi
abbrev S6 (c : Cht) : Cht := Cht.mk c.p c.base c.scale c.off (BIL c) (BIU c)
abbrev BK : Prop := (0 : Nat) = (0 : Nat)
abbrev HQ : Prop := ∀ (i : Nat), i < (0 : Nat) -> false = false
abbrev FN (c : Cht) : Prop := (↑c.ns.length : Int) = (↑c.ns.length : Int)
abbrev HK (c : Cht) : Prop := c.ms.length = c.ms.length
abbrev HH (c : Cht) : Prop := ∀ (i : Nat), i < c.ms.length -> (gD c.ms i).pl = (gD c.ms i).pl /\ (gD c.ms i).ht = (gD c.ms i).ht
abbrev HN (c : Cht) : Prop := c.ns.length = c.ns.length
abbrev HI (c : Cht) : Prop := ∀ (i : Nat), i < c.ns.length -> (gD c.ns i).mi = (gD c.ns i).mi /\ (gD c.ns i).t.lo = (gD c.ns i).t.lo /\ (gD c.ns i).t.hi = (gD c.ns i).t.hi /\ (gD c.ns i).s.lo = (gD c.ns i).s.lo /\ (gD
 c.ns i).s.hi = (gD c.ns i).s.hi
abbrev BJS (c : Cht) : Dk := AG (S6 c)
abbrev WP (c : Cht) : Cht := (BJS c).c
abbrev BTM (c : Cht) : Span := (WP c).p
abbrev CAA (c : Cht) : List Mk := (WP c).ms
abbrev U1 (i : Nat) (c : Cht) : Prop := i < (AG c).c.ms.length
abbrev BQA (c : Cht) (i : Nat) : Mk := gD (CAA c) i
abbrev Nz (c : Cht) : List Nt := (WP c).ns
abbrev ABU (i : Nat) (c : Cht) : Prop := i < (AG c).c.ns.length
abbrev X7 (c : Cht) (i : Nat) : Nt := gD (Nz c) i
abbrev Cr (c : Cht) (i : Nat) : Int := (gD (AG c).c.ns i).t.lo
abbrev BPD (c : Cht) (i : Nat) : Span := (X7 c i).t
abbrev Cz (c : Cht) (i : Nat) : Int := (gD (AG c).c.ns i).t.hi
abbrev Cc (c : Cht) (i : Nat) : Int := (gD (AG c).c.ns i).s.lo
abbrev BXG (c : Cht) (i : Nat) : Span := (X7 c i).s
abbrev Fb (c : Cht) (i : Nat) : Int := (gD (AG c).c.ns i).s.hi
abbrev ES : Prop := ∀ (i : Nat), i < (40 : Nat) -> false = false
abbrev AAL (c : Cht) (n : Int) : Nt := ntOf (Nz c) n
abbrev BTG (c : Cht) (n : Int) : Span := (AAL c n).t
abbrev BPZ (c : Cht) (n : Int) : Span := (AAL c n).s
abbrev BKA : Prop := (0 : Nat) < (0 : Nat)
abbrev BMX : Prop := (1 : Nat) <= (1 : Nat)
abbrev Ui : Prop := (0 : Nat) < (1 : Nat)
abbrev Z8 : Prop := (1 : Nat) = (1 : Nat)
abbrev N4 : Prop := BMX /\ (Ui -> Z8)
abbrev BUK : Prop := true = true -> Ui
abbrev BLE : Prop := (1 : Nat) <= (9223372036854775807 : Nat)
abbrev BMD : Prop := (True /\ (BKA -> (0 : Nat) = (1 : Nat))) /\ N4 /\ BUK /\ BLE /\ (8 : Nat) <= (140737488355328 : Nat)
abbrev FE (c : Cht) : Prop := (AG c).c.p.lo = (AG c).c.p.lo
abbrev FC (c : Cht) : Prop := (AG c).c.p.hi = (AG c).c.p.hi
abbrev FH (c : Cht) : Prop := (AG c).c.base = (AG c).c.base
abbrev FJ (c : Cht) : Prop := (AG c).c.scale = (AG c).c.scale
abbrev FA (c : Cht) : Prop := (AG c).c.off = (AG c).c.off
abbrev JD (c : Cht) : Prop := (AG c).c.ms.length = (AG c).c.ms.length
abbrev IV (c : Cht) : Prop := ∀ (i : Nat), U1 i c -> (gD (AG c).c.ms i).pl = (gD (AG c).c.ms i).pl /\ (gD (AG c).c.ms i).ht = (gD (AG c).c.ms i).ht
abbrev JN (c : Cht) : Prop := (AG c).c.ns.length = (AG c).c.ns.length
abbrev JB (c : Cht) : Prop := ∀ (i : Nat), ABU i c -> (gD (AG c).c.ns i).mi = (gD (AG c).c.ns i).mi /\ Cr c i = Cr c i /\ Cz c i = Cz c i /\ Cc c i = Cc c i /\ Fb c i =
 Fb c i
abbrev IU (c : Cht) : Prop := ∀ (n : Int), hasN (AG c).c.ns n = hasN (AG c).c.ns n
abbrev EB (c : Cht) : Prop := ∀ (n : Int), (AG c).st n = (AG c).st n
abbrev JC (c : Cht) : Prop := ∀ (n : Int), (ntOf (AG c).c.ns n).mi = (ntOf (AG c).c.ns n).mi /\ (ntOf (AG c).c.ns n).t.lo = (ntOf (AG c).c.ns n).t.lo /\ (ntOf (AG c).c.ns n).t.hi = (ntOf (AG c).c.ns
 n).t.hi /\ (ntOf (AG c).c.ns n).s.lo = (ntOf (AG c).c.ns n).s.lo /\ (ntOf (AG c).c.ns n).s.hi = (ntOf (AG c).c.ns n).s.hi
abbrev AAM (a : Nat) (c : Cht) : Prop := (1 : Nat) <= a /\ a <= c.ns.length
abbrev ACH (a : Nat) : Nat := (50 : Nat) - a
abbrev N0 (a : Nat) (c : Cht) : Bool := decide ((↑a : Int) < (↑c.ns.length : Int))
abbrev R6 : Prop := false = true -> Ui
abbrev Wh (a : Nat) : Nat := a + (1 : Nat)
abbrev CAC (a : Nat) (a1 : Nat) : Prop := a = Wh a1
abbrev ADC (a : Nat) (a1 : Nat) : Prop := (↑a : Int) = IntKind.i64.wrap ((↑a1 : Int) + (1 : Int))
abbrev BMP (c : Cht) : Prop := Nat.le (1 : Nat) c.ns.length
abbrev M8 (c : Cht) : List Int := AE c.ns.length λ (i : Nat) => (↑i : Int)
abbrev Gf (c : Cht) : Nat := (M8 c).length
abbrev BMJ (c : Cht) : Prop := Gf c = c.ns.length
abbrev BWI (i : Nat) (c : Cht) : Prop := i < Gf c
abbrev O0 (c : Cht) (i : Nat) : Int := gD (M8 c) i
abbrev W7 (j : Nat) : Nat := (0 : Nat) + j
abbrev N7 (c : Cht) : Prop := FE c /\ FC c /\ FH c /\ FJ c /\ FA c /\ JD c /\ IV c /\ JN c /\ JB c /\ ES /\ AU = AU /\ IU c /\ EB c /\ JC c
abbrev UR (c : Cht) : Prop := c.p.lo = c.p.lo /\ c.p.hi = c.p.hi /\ c.base = c.base /\ c.scale = c.scale /\ c.off = c.off /\ HK c /\ HH c /\ HN c /\ HI c /\ N7 c
abbrev BX (c : Cht) : Prop := (AY c).length = (AY c).length
abbrev BY (c : Cht) : Prop := ∀ (i : Nat), i < (AY c).length -> gD (AY c) i = gD (AY c) i
abbrev T2 (a : Nat) (c : Cht) : Prop := a <= c.ns.length /\ (CN c a).q = []
abbrev BNF (a : Nat) : Prop := (0 : Int) <= (↑a : Int)
abbrev BOD (a : Nat) (c : Cht) : Prop := BNF a /\ (↑a : Int) < (↑(AY c).length : Int)
abbrev BOE (a : Nat) (c : Cht) : Prop := (0 : Int) <= (0 : Int) /\ BNF a /\ (↑a : Int) <= (↑(AY c).length : Int)
abbrev BNR (c : Cht) (a : IJ) (a1 : Nat) : Prop := gD (AY c) a.i = gD (AY c) a1
abbrev BPG (a : Nat) : Nat := a - Int.toNat (0 : Int)
abbrev BTH (a : IJ) (c : Cht) (a1 : Nat) : Prop := (List.take a.i (AY c)).length = BPG a1
abbrev BXV (i : Nat) (a : IJ) (c : Cht) : Prop := i < (List.take a.i (AY c)).length
abbrev T8 (a : IJ) (c : Cht) (i : Nat) : Int := gD (List.take a.i (AY c)) i
abbrev BPP (a : IJ) (c : Cht) : Prop := ∀ (i : Nat), BXV i a c -> T8 a c i = gD (AY c) (Int.toNat (0 : Int) + i)
abbrev BKV (a : IJ) (a1 : Nat) : Prop := (↑a.i : Int) = (↑(BPG a1) : Int)
abbrev BTE (a : IJ) : Prop := (↑a.j : Int) = (0 : Int)
abbrev BNX (c : Cht) (a : IJ) (a1 : Nat) : Prop := (CN c a.i).la = (CN c a1).la
abbrev BVX (a : IJ) (a1 : Nat) : Prop := (↑a.i : Int) = (↑a1 : Int)
abbrev Ea (c : Cht) (a : Nat) : Nat := c.ns.length - a
abbrev BMH (a : IJ) (c : Cht) (a1 : Nat) : Prop := a.i < c.ns.length /\ c.ns.length - a.i = Ea c a1 /\ a.j <= a.i /\ ∀ (t : Nat), t < a.j -> fwP c (CN c a.i).la (gD (AY c) a.i) (gD (AY c) t) = false
abbrev iU (a : IJ) (c : Cht) (a1 : Nat) : Prop := BMH a c a1 /\ (CN c a.i).q = []
abbrev APZ (a : IJ) : Bool := decide ((↑a.j : Int) < (↑a.i : Int))
abbrev AHN (a : IJ) (c : Cht) : Prop := (0 : Int) <= (↑a.j : Int) /\ (↑a.j : Int) < (↑(List.take a.i (AY c)).length : Int)
abbrev LT (a : IJ) (c : Cht) : Int := gD (List.take a.i (AY c)) a.j
abbrev AJZ (c : Cht) (a : IJ) : Bool := decide ((gD c.ns (LT a c).toNat).mi > (CN c a.i).la)
abbrev lZ (a : IJ) (c : Cht) : Pr := dPr (DVal.agg [FV (LT a c), DVal.v (Value.int IntKind.i64 (gD (AY c) a.i))])
abbrev iF (a : IJ) (c : Cht) : Int := (lZ a c).a
abbrev cD (a : IJ) (c : Cht) : Int := (lZ a c).b
abbrev pV (c : Cht) : List Mk := AE (AG c).c.ms.length λ (i : Nat) => gD (AG c).c.ms i
abbrev TX (c : Cht) : Nat := (pV c).length
abbrev BEG (c : Cht) : Prop := TX c = (AG c).c.ms.length
abbrev ALF (c : Cht) (i : Nat) : Mk := gD (pV c) i
abbrev BDB (c : Cht) (i : Nat) : Int := (ALF c i).pl
abbrev AQF (c : Cht) (i : Nat) : Int := (ALF c i).ht
abbrev ALS (c : Cht) : Prop := ∀ (i : Nat), i < TX c -> BDB c i = (gD (AG c).c.ms i).pl /\ AQF c i = (gD (AG c).c.ms i).ht
abbrev UG (c : Cht) : List Nt := AE (AG c).c.ns.length λ (i : Nat) => gD (AG c).c.ns i
abbrev PC (c : Cht) : Nat := (UG c).length
abbrev BEJ (c : Cht) : Prop := PC c = (AG c).c.ns.length
abbrev AJD (i : Nat) (c : Cht) : Prop := i < PC c
abbrev oY (c : Cht) (i : Nat) : Nt := gD (UG c) i
abbrev Ee (c : Cht) (i : Nat) : Int := (oY c i).mi
abbrev AXX (c : Cht) (i : Nat) : Span := (oY c i).t
abbrev ATY (c : Cht) (i : Nat) : Int := (AXX c i).lo
abbrev AWF (c : Cht) (i : Nat) : Int := (AXX c i).hi
abbrev AWA (c : Cht) (i : Nat) : Span := (oY c i).s
abbrev AHI (c : Cht) (i : Nat) : Int := (AWA c i).lo
abbrev ASE (c : Cht) (i : Nat) : Int := (AWA c i).hi
abbrev ARB (c : Cht) : Prop := ∀ (i : Nat), AJD i c -> Ee c i = (gD (AG c).c.ns i).mi /\ ATY c i = Cr c i /\ AWF c i = Cz c i /\ AHI c i = Cc c i /\ ASE c i =
 Fb c i
abbrev ANM (c : Cht) (n : Int) : Bool := hasN (UG c) n
abbrev ATG (c : Cht) : Prop := ∀ (n : Int), ANM c n = hasN (AG c).c.ns n
abbrev mD (c : Cht) (n : Int) : Nt := ntOf (UG c) n
abbrev ATC (c : Cht) (n : Int) : Int := (mD c n).mi
abbrev AUW (c : Cht) (n : Int) : Span := (mD c n).t
abbrev AZM (c : Cht) (n : Int) : Int := (AUW c n).lo
abbrev AST (c : Cht) (n : Int) : Int := (AUW c n).hi
abbrev AFU (c : Cht) (n : Int) : Span := (mD c n).s
abbrev AXM (c : Cht) (n : Int) : Int := (AFU c n).lo
abbrev BCR (c : Cht) (n : Int) : Int := (AFU c n).hi
abbrev AUS (c : Cht) : Prop := ∀ (n : Int), ATC c n = (ntOf (AG c).c.ns n).mi /\ AZM c n = (ntOf (AG c).c.ns n).t.lo /\ AST c n = (ntOf (AG c).c.ns n).t.hi /\ AXM c n = (ntOf (AG
 c).c.ns n).s.lo /\ BCR c n = (ntOf (AG c).c.ns n).s.hi
abbrev AXQ (c : Cht) : Prop := TX c <= (40 : Nat)
abbrev AFN (a : IJ) (c : Cht) : Prop := ((0 : Int) <= LT a c /\ LT a c < (↑c.ns.length : Int)) /\ (AJZ c a = true -> iF a c = LT a c /\ cD a c = gD (AY c) a.i /\ FE c /\
 FC c /\ FH c /\ FJ c /\ FA c /\ BEG c /\ ALS c /\ BEJ c /\ ARB c /\ ES /\ AU = AU /\ ATG c /\ EB c /\ AUS c /\ FE c /\ FC c /\ FH c /\ FJ
 c /\ FA c /\ (AG c).c.ms.length = TX c /\ (∀ (i : Nat), U1 i c -> (gD (AG c).c.ms i).pl = BDB c i /\ (gD (AG c).c.ms i).ht = AQF c i) /\ (AG c).c.ns.length = PC c /\ (∀ (i : Nat),
 ABU i c -> (gD (AG c).c.ns i).mi = Ee c i /\ Cr c i = ATY c i /\ Cz c i = AWF c i /\ Cc c i = AHI c i /\ Fb c i = ASE c i) /\ ES /\ AU = AU /\ (∀ (n : Int),
 hasN (AG c).c.ns n = ANM c n) /\ EB c /\ (∀ (n : Int), (ntOf (AG c).c.ns n).mi = ATC c n /\ (ntOf (AG c).c.ns n).t.lo = AZM c n /\ (ntOf (AG c).c.ns n).t.hi = AST c n /\ (ntOf (AG
 c).c.ns n).s.lo = AXM c n /\ (ntOf (AG c).c.ns n).s.hi = BCR c n) /\ (((0 : Int) <= iF a c /\ iF a c < (↑(PC c) : Int)) /\ (0 : Int) <= cD a c /\ cD a c < (↑(PC c) : Int))
 /\ (AXQ c /\ PC c <= (20 : Nat)) /\ ∀ (i : Nat), AJD i c -> (0 : Int) <= Ee c i /\ Ee c i < (↑(TX c) : Int))
abbrev AHG (c : Cht) : Cht := Cht.mk (AG c).c.p (AG c).c.base (AG c).c.scale (AG c).c.off (pV c) (UG c)
abbrev ARL (c : Cht) (a : IJ) : Bool := bif AJZ c a then RJ (AHG c) (lZ a c) else false
abbrev AWS (c : Cht) (a : IJ) : Prop := (0 : Int) <= gD (AY c) a.i /\ gD (AY c) a.i < (↑c.ns.length : Int)
abbrev ALY : Prop := (2 : Nat) = (2 : Nat)
abbrev AWP : Prop := BMX /\ (Ui -> ALY)
abbrev rB (c : Cht) (a : Nat) : FwS := CN c (Wh a)
abbrev nI (c : Cht) (a : Nat) : List Int := (rB c a).q
abbrev NX (c : Cht) (a : Nat) : Nat := (nI c a).length
abbrev BAV (c : Cht) (a : Nat) : Prop := NX c a = (1 : Nat)
abbrev AYZ (c : Cht) (a : Nat) : List Pr := (rB c a).r
abbrev TQ (c : Cht) (a : Nat) : Nat := (AYZ c a).length
abbrev AND (c : Cht) (a : Nat) : Prop := TQ c a = (1 : Nat)
abbrev iY (c : Cht) (a : Nat) : Int := (rB c a).la
abbrev kP (c : Cht) (a : IJ) : Int := IntKind.i64.wrap ((gD c.ns (gD (AY c) a.i).toNat).mi - (1 : Int))
abbrev ASM (c : Cht) (a : Nat) (a1 : IJ) : Prop := iY c a = kP c a1
abbrev Bs (a : Nat) (a1 : IJ) : Prop := (↑a : Int) = (↑a1.i : Int)
abbrev qS (i : Nat) (c : Cht) (a : Nat) : Prop := i < NX c a
abbrev Fc (c : Cht) (a : Nat) (i : Nat) : Int := gD (nI c a) i
abbrev pT (i : Nat) (c : Cht) (a : Nat) : Prop := i < TQ c a
abbrev AVI (c : Cht) (a : Nat) (i : Nat) : Pr := gD (AYZ c a) i
abbrev Bv (c : Cht) (a : Nat) (i : Nat) : Int := (AVI c a i).a
abbrev By (c : Cht) (a : Nat) (i : Nat) : Int := (AVI c a i).b
abbrev AZC (c : Cht) (a : Nat) (a1 : Nat) : Prop := Ea c a = Ea c a1
abbrev Bl (a : Nat) (c : Cht) (a1 : Nat) : Prop := a < c.ns.length /\ AZC c a a1 /\ (1 : Nat) <= NX c a
abbrev ANC (c : Cht) (a : IJ) (a1 : IJ) : Prop := gD (AY c) a.i = gD (AY c) a1.i
abbrev BDI (a : IJ) (c : Cht) (a1 : IJ) : Prop := (List.take a.i (AY c)).length = (List.take a1.i (AY c)).length
abbrev AUO (a : IJ) (c : Cht) (a1 : IJ) : Prop := ∀ (i : Nat), BXV i a c -> T8 a c i = T8 a1 c i
abbrev Fp (a : IJ) (a1 : IJ) : Prop := (↑a.i : Int) = (↑a1.i : Int)
abbrev AUP (a : IJ) (a1 : IJ) : Prop := (↑a.j : Int) = IntKind.i64.wrap ((↑a1.j : Int) + (1 : Int))
abbrev AQG (c : Cht) (a : IJ) (a1 : IJ) : Prop := (CN c a.i).la = (CN c a1.i).la
abbrev ALM (c : Cht) (a : IJ) : Nat := c.ns.length - a.j
abbrev AKC (c : Cht) (a : IJ) (a1 : IJ) : Prop := ALM c a < ALM c a1
abbrev ASS (c : Cht) (a : Nat) (a1 : IJ) : Prop := iY c a = (CN c a1.i).la
abbrev AMK (a : Nat) (c : Cht) (a1 : Nat) : Prop := a < c.ns.length /\ AZC c a a1 /\ nI c a = []
abbrev ARA (c : Cht) (a : Nat) (a1 : Nat) : Prop := (CN c a).la = iY c a1
abbrev BAO (c : Cht) (a : Nat) (a1 : Nat) : Prop := Ea c a < Ea c a1
abbrev BAQ (c : Cht) (a : Nat) (a1 : Nat) : Prop := (CN c a).q.length = NX c a1
abbrev ATU (c : Cht) (a : Nat) (a1 : Nat) : Prop := (CN c a).r.length = TQ c a1
abbrev AIT (a : Nat) (c : Cht) : Prop := a <= c.ns.length /\ (1 : Nat) <= (CN c a).q.length
abbrev dN (c : Cht) (a : Nat) : Prop := ∀ (a_1 : Nat), Bl a_1 c a -> ∃ (a_3 : Nat), (BK /\ BAQ c a_3 a_1 /\ BK /\ ATU c a_3 a_1 /\ BX c /\ BY c /\ ARA c a_3 a_1 /\ BX
 c /\ BY c /\ FN c /\ ADC a_3 a_1 /\ c.p.lo = c.p.lo /\ c.p.hi = c.p.hi /\ c.base = c.base /\ c.scale = c.scale /\ c.off = c.off /\ HK c /\ HH c /\ HN c /\ HI c /\ FE c /\ FC c /\
 FH c /\ FJ c /\ FA c /\ JD c /\ IV c /\ JN c /\ JB c /\ ES /\ AU = AU /\ IU c /\ EB c /\ JC c /\ BAQ c a_3 a_1 /\ (∀ (i : Nat), i < (CN c a_3).q.length -> gD
 (CN c a_3).q i = Fc c a_1 i) /\ ATU c a_3 a_1 /\ ∀ (i : Nat), i < (CN c a_3).r.length -> (gD (CN c a_3).r i).a = Bv c a_1 i /\ (gD (CN c a_3).r i).b = By c a_1 i) /\ AIT a_3 c /\ BAO
 c a_3 a
abbrev AYC (c : Cht) : Prop := (Af c).q.length = (0 : Nat)
abbrev AUD (c : Cht) : Prop := (Af c).r.length = (0 : Nat)
abbrev BDT (c : Cht) (a : IJ) (a1 : Nat) : Prop := (CN c a.i).q.length = (CN c a1).q.length
abbrev AMY (c : Cht) (a : IJ) (a1 : Nat) : Prop := (CN c a.i).r.length = (CN c a1).r.length
abbrev iG (i : Nat) (c : Cht) (a : IJ) : Prop := i < (CN c a.i).q.length
abbrev kL (i : Nat) (c : Cht) (a : IJ) : Prop := i < (CN c a.i).r.length
abbrev UM (c : Cht) (a : IJ) (i : Nat) : Int := (gD (CN c a.i).r i).a
abbrev TT (c : Cht) (a : IJ) (i : Nat) : Int := (gD (CN c a.i).r i).b
abbrev jL (a : IJ) (c : Cht) (a1 : Nat) : Prop := BMH a c a1 /\ (1 : Nat) <= (CN c a.i).q.length
abbrev oH (c : Cht) (a : IJ) : Nat := (CN c a.i).q.length + (1 : Nat)
abbrev pX (c : Cht) (a : IJ) : Nat := (CN c a.i).r.length + (1 : Nat)
abbrev AXE (c : Cht) (a : Nat) (a1 : IJ) : Prop := NX c a = oH c a1
abbrev BAY (c : Cht) (a : Nat) (a1 : IJ) : Prop := TQ c a = pX c a1
abbrev AII (i : Nat) (c : Cht) (a : IJ) : Bool := decide (kL i c a)
abbrev BDY (c : Cht) (a : IJ) (a1 : IJ) : Prop := (CN c a.i).q.length = (CN c a1.i).q.length
abbrev AJA (c : Cht) (a : IJ) (a1 : IJ) : Prop := (CN c a.i).r.length = (CN c a1.i).r.length
abbrev AOW (c : Cht) (a : Nat) (a1 : IJ) : Prop := NX c a = (CN c a1.i).q.length
abbrev BBF (c : Cht) (a : Nat) (a1 : IJ) : Prop := TQ c a = (CN c a1.i).r.length
abbrev BBR (c : Cht) (a : Nat) (j : Nat) : Pr := gD (CN c a).r (W7 j)
abbrev kE (c : Cht) : List Int := AE (Af c).q.length λ (i : Nat) => gD (Af c).q i
abbrev jQ (c : Cht) : Nat := (kE c).length
abbrev Eh (c : Cht) : Dk := lA (DkZ.mk (Dk.mk (AHG c) (AG c).st (AG c).sp) (kE c))
abbrev NR (c : Cht) : Cht := (Eh c).c
abbrev Cq (c : Cht) : List Nt := (NR c).ns
abbrev nC (c : Cht) (n : Int) : Nt := ntOf (Cq c) n
abbrev ATA (c : Cht) (n : Int) : Span := (nC c n).t
abbrev AHW (c : Cht) (n : Int) : Span := (nC c n).s
abbrev mR (c : Cht) : Span := (NR c).p
abbrev AML (c : Cht) : Int := (mR c).lo
abbrev ARM (c : Cht) : Prop := AML c = AML c
abbrev AOM (c : Cht) : Int := (mR c).hi
abbrev BDA (c : Cht) : Prop := AOM c = AOM c
abbrev iV (c : Cht) : Int := (NR c).base
abbrev AGX (c : Cht) : Prop := iV c = iV c
abbrev iA (c : Cht) : Int := (NR c).scale
abbrev APR (c : Cht) : Prop := iA c = iA c
abbrev qQ (c : Cht) : Int := (NR c).off
abbrev BAU (c : Cht) : Prop := qQ c = qQ c
abbrev AXF (c : Cht) : List Mk := (NR c).ms
abbrev El (c : Cht) : Nat := (AXF c).length
abbrev oV (c : Cht) (i : Nat) : Mk := gD (AXF c) i
abbrev lJ (c : Cht) : List Mk := AE (El c) λ (i : Nat) => oV c i
abbrev PE (c : Cht) : Nat := (lJ c).length
abbrev ANJ (c : Cht) (i : Nat) : Mk := gD (lJ c) i
abbrev AIN (c : Cht) (i : Nat) : Int := (ANJ c i).pl
abbrev AGS (c : Cht) (i : Nat) : Int := (oV c i).pl
abbrev APG (c : Cht) (i : Nat) : Int := (ANJ c i).ht
abbrev AJP (c : Cht) (i : Nat) : Int := (oV c i).ht
abbrev Cd (c : Cht) : Nat := (Cq c).length
abbrev Ca (c : Cht) (i : Nat) : Nt := gD (Cq c) i
abbrev UH (c : Cht) : List Nt := AE (Cd c) λ (i : Nat) => Ca c i
abbrev cA (c : Cht) : Nat := (UH c).length
abbrev fC (c : Cht) (i : Nat) : Nt := gD (UH c) i
abbrev ASL (c : Cht) (i : Nat) : Int := (fC c i).mi
abbrev BAW (c : Cht) (i : Nat) : Int := (Ca c i).mi
abbrev AVZ (c : Cht) (i : Nat) : Span := (fC c i).t
abbrev AXD (c : Cht) (i : Nat) : Int := (AVZ c i).lo
abbrev BCK (c : Cht) (i : Nat) : Span := (Ca c i).t
abbrev ARW (c : Cht) (i : Nat) : Int := (BCK c i).lo
abbrev AJQ (c : Cht) (i : Nat) : Int := (AVZ c i).hi
abbrev ASI (c : Cht) (i : Nat) : Int := (BCK c i).hi
abbrev AMI (c : Cht) (i : Nat) : Span := (fC c i).s
abbrev AOP (c : Cht) (i : Nat) : Int := (AMI c i).lo
abbrev AGD (c : Cht) (i : Nat) : Span := (Ca c i).s
abbrev BCE (c : Cht) (i : Nat) : Int := (AGD c i).lo
abbrev AKE (c : Cht) (i : Nat) : Int := (AMI c i).hi
abbrev APT (c : Cht) (i : Nat) : Int := (AGD c i).hi
abbrev AKD (c : Cht) (i : Nat) : Bool := (Eh c).sp i
abbrev ASC (c : Cht) : Prop := ∀ (i : Nat), i < (40 : Nat) -> AKD c i = AKD c i
abbrev mC (c : Cht) (n : Int) : Bool := hasN (UH c) n
abbrev jT (c : Cht) (n : Int) : Nt := ntOf (UH c) n
abbrev AGK (c : Cht) (n : Int) : Int := (jT c n).mi
abbrev AVX (c : Cht) (n : Int) : Span := (jT c n).t
abbrev ASR (c : Cht) (n : Int) : Int := (AVX c n).lo
abbrev AXC (c : Cht) (n : Int) : Int := (AVX c n).hi
abbrev AIC (c : Cht) (n : Int) : Span := (jT c n).s
abbrev AVT (c : Cht) (n : Int) : Int := (AIC c n).lo
abbrev BDV (c : Cht) (n : Int) : Int := (AIC c n).hi
abbrev ARN (c : Cht) : Prop := (K8 c).q.length = (0 : Nat)
abbrev AIZ (c : Cht) : Prop := (K8 c).r.length = (0 : Nat)
abbrev AZO (c : Cht) : Prop := ∀ (a : One), True -> (jQ c = (Af c).q.length /\ (∀ (i : Nat), i < jQ c -> gD (kE c) i = gD (Af c).q i) /\ FE c /\ FC c /\ FH c /\ FJ c /\
 FA c /\ BEG c /\ ALS c /\ BEJ c /\ ARB c /\ ES /\ AU = AU /\ ATG c /\ EB c /\ AUS c /\ AU = AU /\ (∀ (n : Int), hasN (AG c).c.ns n = hasN (Cq c) n) /\ (∀ (n : Int),
 (AG c).st n = (Eh c).st n) /\ (∀ (n : Int), (ntOf (AG c).c.ns n).mi = (nC c n).mi /\ (ntOf (AG c).c.ns n).t.lo = (ATA c n).lo /\ (ntOf (AG c).c.ns n).t.hi = (ATA c n).hi /\ (ntOf (AG
 c).c.ns n).s.lo = (AHW c n).lo /\ (ntOf (AG c).c.ns n).s.hi = (AHW c n).hi) /\ jQ c < (4611686018427387904 : Nat) /\ AXQ c) /\ (ARM c /\ BDA c /\ AGX c /\ APR c /\ BAU c /\
 PE c = El c /\ (∀ (i : Nat), i < PE c -> AIN c i = AGS c i /\ APG c i = AJP c i) /\ cA c = Cd c /\ (∀ (i : Nat), i < cA c -> ASL c i = BAW c i /\
 AXD c i = ARW c i /\ AJQ c i = ASI c i /\ AOP c i = BCE c i /\ AKE c i = APT c i) /\ ASC c /\ AU = AU /\ (∀ (n : Int), mC c n = hasN (AG c).c.ns n) /\ EB c
 /\ (∀ (n : Int), AGK c n = (ntOf (AG c).c.ns n).mi /\ ASR c n = (ntOf (AG c).c.ns n).t.lo /\ AXC c n = (ntOf (AG c).c.ns n).t.hi /\ AVT c n = (ntOf (AG c).c.ns n).s.lo /\ BDV c n = (ntOf
 (AG c).c.ns n).s.hi) /\ ARM c /\ BDA c /\ AGX c /\ APR c /\ BAU c /\ El c = PE c /\ (∀ (i : Nat), i < El c -> AGS c i = AIN c i /\ AJP c i = APG c i) /\
 Cd c = cA c /\ (∀ (i : Nat), i < Cd c -> BAW c i = ASL c i /\ ARW c i = AXD c i /\ ASI c i = AJQ c i /\ BCE c i = AOP c i /\ APT c i = AKE c i) /\
 ASC c /\ AU = AU /\ (∀ (n : Int), hasN (AG c).c.ns n = mC c n) /\ EB c /\ (∀ (n : Int), (ntOf (AG c).c.ns n).mi = AGK c n /\ (ntOf (AG c).c.ns n).t.lo = ASR c n /\ (ntOf (AG c).c.ns
 n).t.hi = AXC c n /\ (ntOf (AG c).c.ns n).s.lo = AVT c n /\ (ntOf (AG c).c.ns n).s.hi = BDV c n) /\ (1 : Nat) <= PE c /\ PE c <= (40 : Nat) /\ ∀ (j : Int), mC c j = true -> (0 : Int) <=
 j /\ j < (↑(PE c) : Int)) /\ bif !(AX (Dk.mk (Cht.mk (mR c) (iV c) (iA c) (qQ c) (lJ c) (UH c)) (AG c).st (Eh c).sp)).snd then ARN c /\ ARN c /\
 AIZ c /\ AIZ c /\ (K8 c).e = (6 : Int) else (K8 c).q.length = (Af c).q.length /\ (∀ (i : Nat), i < (K8 c).q.length -> gD (K8 c).q i = gD (Af c).q i) /\ (K8 c).r.length = (Af c).r.length /\ (∀ (i : Nat), i <
 (K8 c).r.length -> (gD (K8 c).r i).a = (gD (Af c).r i).a /\ (gD (K8 c).r i).b = (gD (Af c).r i).b) /\ (K8 c).e = (0 : Int)
theorem DOF (c : Cht) : (DMP c) = ((c.p.lo = c.p.lo /\ c.p.hi = c.p.hi /\ c.base = c.base /\ c.scale = c.scale /\ c.off = c.off /\ CLD c /\ CDQ c /\ CGX c /\ BSS c /\ (ABG c < (4611686018427387904 : Nat)
 /\ qR c < (4611686018427387904 : Nat)) /\ AO (S6 c) = (0 : Int)) /\ ((∃ (a : One), (BK /\ HQ /\ FN c /\ Int.ofNat (0 : Nat) = Int.ofNat (0 : Nat) /\ c.p.lo = c.p.lo /\ c.p.hi = c.p.hi /\ c.base =
 c.base /\ c.scale = c.scale /\ c.off = c.off /\ HK c /\ HH c /\ HN c /\ HI c /\ (AG c).c.p.lo = (BTM c).lo /\ (AG c).c.p.hi = (BTM c).hi /\ (AG c).c.base = (WP c).base /\ (AG
 c).c.scale = (WP c).scale /\ (AG c).c.off = (WP c).off /\ (AG c).c.ms.length = (CAA c).length /\ (∀ (i : Nat), U1 i c -> (gD (AG c).c.ms i).pl = (BQA c i).pl /\ (gD (AG c).c.ms i).ht =
 (BQA c i).ht) /\ (AG c).c.ns.length = (Nz c).length /\ (∀ (i : Nat), ABU i c -> (gD (AG c).c.ns i).mi = (X7 c i).mi /\ Cr c i = (BPD c i).lo /\ Cz c i = (BPD c i).hi /\ Cc
 c i = (BXG c i).lo /\ Fb c i = (BXG c i).hi) /\ ES /\ AU = AU /\ (∀ (n : Int), hasN (AG c).c.ns n = hasN (Nz c) n) /\ (∀ (n : Int), (AG c).st n = (BJS c).st n) /\ ∀ (n : Int), (ntOf (AG
 c).c.ns n).mi = (AAL c n).mi /\ (ntOf (AG c).c.ns n).t.lo = (BTG c n).lo /\ (ntOf (AG c).c.ns n).t.hi = (BTG c n).hi /\ (ntOf (AG c).c.ns n).s.lo = (BPZ c n).lo /\ (ntOf (AG c).c.ns n).s.hi =
 (BPZ c n).hi) /\ True) /\ (∀ (a : One), True -> bif decide ((↑(0 : Nat) : Int) < (↑c.ns.length : Int)) then BMD /\ ∃ (a : Nat), (BK /\ a = (1 : Nat) /\ FN c /\ (↑a : Int) = IntKind.i64.wrap ((↑(0 : Nat) :
 Int) + (1 : Int)) /\ c.p.lo = c.p.lo /\ c.p.hi = c.p.hi /\ c.base = c.base /\ c.scale = c.scale /\ c.off = c.off /\ HK c /\ HH c /\ HN c /\ HI c /\ FE c /\ FC c /\ FH c /\ FJ c /\
 FA c /\ JD c /\ IV c /\ JN c /\ JB c /\ ES /\ AU = AU /\ IU c /\ EB c /\ JC c /\ a = (1 : Nat) /\ ∀ (i : Nat), i < a -> (↑i : Int) = (↑(0 : Nat) : Int)) /\ AAM a c /\
 ACH a < (60 : Nat) else False) /\ ∀ (a : Nat), AAM a c -> bif N0 a c then ((a = a /\ ((0 : Nat) < a -> Z8)) /\ N4 /\ R6 /\ Wh a <= (9223372036854775807 : Nat) /\ Wh a * (8 : Nat) <=
 (140737488355328 : Nat)) /\ ∃ (a_2 : Nat), (BK /\ CAC a_2 a /\ FN c /\ ADC a_2 a /\ c.p.lo = c.p.lo /\ c.p.hi = c.p.hi /\ c.base = c.base /\ c.scale = c.scale /\ c.off = c.off /\ HK c /\ HH c /\
 HN c /\ HI c /\ FE c /\ FC c /\ FH c /\ FJ c /\ FA c /\ JD c /\ IV c /\ JN c /\ JB c /\ ES /\ AU = AU /\ IU c /\ EB c /\ JC c /\ CAC a_2 a
 /\ ∀ (i : Nat), i < a_2 -> (↑i : Int) = bif decide (i < a) then (↑i : Int) else (↑a : Int)) /\ AAM a_2 c /\ ACH a_2 < ACH a else ∃ (a_2 : One), (BK /\ c.ns.length = a /\ c.p.lo = c.p.lo /\ c.p.hi = c.p.hi /\
 c.base = c.base /\ c.scale = c.scale /\ c.off = c.off /\ HK c /\ HH c /\ HN c /\ HI c /\ FE c /\ FC c /\ FH c /\ FJ c /\ FA c /\ JD c /\ IV c /\ JN c /\ JB c
 /\ ES /\ AU = AU /\ IU c /\ EB c /\ JC c /\ c.ns.length = a /\ ∀ (i : Nat), i < c.ns.length -> (↑i : Int) = (↑i : Int)) /\ BMP c) /\ ∀ (a : One), BMP c -> ((BK /\ BMJ c /\ BMJ c /\
 (∀ (i : Nat), BWI i c -> O0 c i = (↑i : Int)) /\ c.p.lo = c.p.lo /\ c.p.hi = c.p.hi /\ c.base = c.base /\ c.scale = c.scale /\ c.off = c.off /\ CLD c /\ CDQ c /\ CGX c /\ BSS c /\ c.p.lo = c.p.lo /\
 c.p.hi = c.p.hi /\ c.base = c.base /\ c.scale = c.scale /\ c.off = c.off /\ c.ms.length = ABG c /\ (∀ (i : Nat), i < c.ms.length -> (gD c.ms i).pl = CIJ c i /\ (gD c.ms i).ht = CJW c i) /\ c.ns.length = qR c /\
 (∀ (i : Nat), i < c.ns.length -> (gD c.ns i).mi = BVG c i /\ (gD c.ns i).t.lo = BOO c i /\ (gD c.ns i).t.hi = BZK c i /\ (gD c.ns i).s.lo = BMM c i /\ (gD c.ns i).s.hi = BMN c i) /\ Gf c <= (12 :
 Nat) /\ Gf c < (1073741824 : Nat) /\ ∀ (i : Nat), BWI i c -> (0 : Int) <= O0 c i /\ O0 c i < (↑(qR c) : Int)) /\ ∃ (a : One), ((AY c).length = c.ns.length /\ (0 : Nat) + c.ns.length <= Gf c /\
 (∀ (j : Nat), j < (AY c).length -> gD (AY c) j = gD (stM (ID (S6 c)) (M8 c)) (W7 j)) /\ UR c) /\ True) /\ ∀ (a : One), True -> ((∃ (a : Nat), (BK /\ HQ /\ BK /\ HQ /\ BX
 c /\ BY c /\ (CN c a).la = (-1 : Int) /\ BX c /\ BY c /\ (↑c.ns.length : Int) = (↑(AY c).length : Int) /\ (↑a : Int) = (0 : Int) /\ UR c) /\ T2 a c) /\ (∀ (a : Nat), T2 a c -> bif N0 a
 c then (BOD a c /\ BOE a c /\ (∃ (a_2 : IJ), (BNR c a_2 a /\ BTH a_2 c a /\ BPP a_2 c /\ BKV a_2 a /\ BTE a_2 /\ BK /\ HQ /\ BK /\ HQ /\ BX c /\ BY c /\ BNX
 c a_2 a /\ BX c /\ BY c /\ FN c /\ BVX a_2 a /\ UR c) /\ iU a_2 c a) /\ ∀ (a_2 : IJ), iU a_2 c a -> bif APZ a_2 then AHN a_2 c /\ AFN a_2 c /\ bif ARL c a_2 then
 AWS c a_2 /\ (BMD /\ (True /\ (BKA -> (0 : Nat) = (2 : Nat))) /\ AWP /\ BUK /\ BLE /\ (16 : Nat) <= (140737488355328 : Nat)) /\ ∃ (a_4 : Nat), (BK /\ BAV c a_4 /\ BK /\ AND c
 a_4 /\ BX c /\ BY c /\ ASM c a_4 a_2 /\ BX c /\ BY c /\ FN c /\ Bs a_4 a_2 /\ c.p.lo = c.p.lo /\ c.p.hi = c.p.hi /\ c.base = c.base /\ c.scale = c.scale /\ c.off = c.off /\ HK c /\
 HH c /\ HN c /\ HI c /\ FE c /\ FC c /\ FH c /\ FJ c /\ FA c /\ JD c /\ IV c /\ JN c /\ JB c /\ ES /\ AU = AU /\ IU c /\ EB c /\ JC c /\
 BAV c a_4 /\ (∀ (i : Nat), qS i c a_4 -> Fc c a_4 i = kP c a_2) /\ AND c a_4 /\ ∀ (i : Nat), pT i c a_4 -> Bv c a_4 i = LT a_2 c /\ By c a_4 i = gD (AY c) a_2.i) /\
 Bl a_4 c a else ∃ (a_4 : IJ), (ANC c a_4 a_2 /\ BDI a_4 c a_2 /\ AUO a_4 c a_2 /\ Fp a_4 a_2 /\ AUP a_4 a_2 /\ BK /\ HQ /\ BK /\ HQ /\ BX c /\ BY c /\
 AQG c a_4 a_2 /\ BX c /\ BY c /\ FN c /\ Fp a_4 a_2 /\ UR c) /\ iU a_4 c a /\ AKC c a_4 a_2 else ∃ (a_4 : Nat), (BK /\ HQ /\ BK /\ HQ /\ BX c /\
 BY c /\ ASS c a_4 a_2 /\ BX c /\ BY c /\ FN c /\ Bs a_4 a_2 /\ UR c) /\ AMK a_4 c a) /\ (∀ (a_2 : Nat), AMK a_2 c a -> ∃ (a_4 : Nat), (BK /\ HQ /\ BK /\
 HQ /\ BX c /\ BY c /\ ARA c a_4 a_2 /\ BX c /\ BY c /\ FN c /\ ADC a_4 a_2 /\ UR c) /\ T2 a_4 c /\ BAO c a_4 a) /\ dN c a else ∃ (a : One), (AYC c /\
 AYC c /\ AUD c /\ AUD c /\ N7 c) /\ True) /\ ∀ (a : Nat), AIT a c -> bif N0 a c then (BOD a c /\ BOE a c /\ (∃ (a_2 : IJ), (BNR c a_2 a /\ BTH a_2 c a /\ BPP a_2 c /\
 BKV a_2 a /\ BTE a_2 /\ BK /\ BDT c a_2 a /\ BK /\ AMY c a_2 a /\ BX c /\ BY c /\ BNX c a_2 a /\ BX c /\ BY c /\ FN c /\ BVX a_2 a /\ c.p.lo = c.p.lo /\ c.p.hi
 = c.p.hi /\ c.base = c.base /\ c.scale = c.scale /\ c.off = c.off /\ HK c /\ HH c /\ HN c /\ HI c /\ FE c /\ FC c /\ FH c /\ FJ c /\ FA c /\ JD c /\ IV c /\ JN c /\
 JB c /\ ES /\ AU = AU /\ IU c /\ EB c /\ JC c /\ BDT c a_2 a /\ (∀ (i : Nat), iG i c a_2 -> gD (CN c a_2.i).q i = gD (CN c a).q i) /\ AMY c a_2 a /\ ∀ (i : Nat), kL i c
 a_2 -> UM c a_2 i = (gD (CN c a).r i).a /\ TT c a_2 i = (gD (CN c a).r i).b) /\ jL a_2 c a) /\ ∀ (a_2 : IJ), jL a_2 c a -> bif APZ a_2 then AHN a_2 c /\ AFN a_2 c /\ bif ARL
 c a_2 then AWS c a_2 /\ ((((CN c a_2.i).q.length = (CN c a_2.i).q.length /\ ((0 : Nat) < (CN c a_2.i).q.length -> Z8)) /\ N4 /\ R6 /\ oH c a_2 <= (9223372036854775807 : Nat) /\ oH c a_2 *
 (8 : Nat) <= (140737488355328 : Nat)) /\ ((CN c a_2.i).r.length = (CN c a_2.i).r.length /\ ((0 : Nat) < (CN c a_2.i).r.length -> ALY)) /\ AWP /\ R6 /\ pX c a_2 <= (9223372036854775807 : Nat) /\
 pX c a_2 * (16 : Nat) <= (140737488355328 : Nat)) /\ ∃ (a_4 : Nat), (BK /\ AXE c a_4 a_2 /\ BK /\ BAY c a_4 a_2 /\ BX c /\ BY c /\ ASM c a_4 a_2 /\ BX c /\ BY c /\
 FN c /\ Bs a_4 a_2 /\ c.p.lo = c.p.lo /\ c.p.hi = c.p.hi /\ c.base = c.base /\ c.scale = c.scale /\ c.off = c.off /\ HK c /\ HH c /\ HN c /\ HI c /\ FE c /\ FC c /\ FH c /\
 FJ c /\ FA c /\ JD c /\ IV c /\ JN c /\ JB c /\ ES /\ AU = AU /\ IU c /\ EB c /\ JC c /\ AXE c a_4 a_2 /\ (∀ (i : Nat), qS i c a_4 -> Fc c a_4 i = bif
 decide (iG i c a_2) then gD (CN c a_2.i).q i else kP c a_2) /\ BAY c a_4 a_2 /\ ∀ (i : Nat), pT i c a_4 -> (Bv c a_4 i = bif AII i c a_2 then UM c a_2 i else LT a_2 c)
 /\ By c a_4 i = bif AII i c a_2 then TT c a_2 i else gD (AY c) a_2.i) /\ Bl a_4 c a else ∃ (a_4 : IJ), (ANC c a_4 a_2 /\ BDI a_4 c a_2 /\ AUO a_4 c a_2 /\ Fp a_4 a_2 /\
 AUP a_4 a_2 /\ BK /\ BDY c a_4 a_2 /\ BK /\ AJA c a_4 a_2 /\ BX c /\ BY c /\ AQG c a_4 a_2 /\ BX c /\ BY c /\ FN c /\ Fp a_4 a_2 /\ c.p.lo = c.p.lo /\ c.p.hi =
 c.p.hi /\ c.base = c.base /\ c.scale = c.scale /\ c.off = c.off /\ HK c /\ HH c /\ HN c /\ HI c /\ FE c /\ FC c /\ FH c /\ FJ c /\ FA c /\ JD c /\ IV c /\ JN c /\
 JB c /\ ES /\ AU = AU /\ IU c /\ EB c /\ JC c /\ BDY c a_4 a_2 /\ (∀ (i : Nat), iG i c a_4 -> gD (CN c a_4.i).q i = gD (CN c a_2.i).q i) /\ AJA c a_4 a_2 /\ ∀ (i : Nat),
 kL i c a_4 -> UM c a_4 i = UM c a_2 i /\ TT c a_4 i = TT c a_2 i) /\ jL a_4 c a /\ AKC c a_4 a_2 else ∃ (a_4 : Nat), (BK /\ AOW c a_4 a_2 /\ BK /\ BBF c
 a_4 a_2 /\ BX c /\ BY c /\ ASS c a_4 a_2 /\ BX c /\ BY c /\ FN c /\ Bs a_4 a_2 /\ c.p.lo = c.p.lo /\ c.p.hi = c.p.hi /\ c.base = c.base /\ c.scale = c.scale /\ c.off = c.off /\ HK c /\
 HH c /\ HN c /\ HI c /\ FE c /\ FC c /\ FH c /\ FJ c /\ FA c /\ JD c /\ IV c /\ JN c /\ JB c /\ ES /\ AU = AU /\ IU c /\ EB c /\ JC c /\
 AOW c a_4 a_2 /\ (∀ (i : Nat), qS i c a_4 -> Fc c a_4 i = gD (CN c a_2.i).q i) /\ BBF c a_4 a_2 /\ ∀ (i : Nat), pT i c a_4 -> Bv c a_4 i = UM c a_2 i /\ By c a_4 i =
 TT c a_2 i) /\ Bl a_4 c a) /\ dN c a /\ dN c a else ∃ (a_2 : One), ((Af c).q.length = (CN c a).q.length /\ (0 : Nat) + (CN c a).q.length <= (CN c a).q.length /\ (∀ (j : Nat), j < (Af
 c).q.length -> gD (Af c).q j = gD (CN c a).q (W7 j)) /\ (Af c).r.length = (CN c a).r.length /\ (0 : Nat) + (CN c a).r.length <= (CN c a).r.length /\ (∀ (j : Nat), j < (Af c).r.length -> (gD (Af c).r j).a =
 (BBR c a j).a /\ (gD (Af c).r j).b = (BBR c a j).b) /\ N7 c) /\ True) /\ AZO c /\ AZO c) := by kernel_rfl
theorem DKR (a b : Int) : dPr (.agg [FV a, .v (.int .i64 b)]) = ⟨a, b⟩ := rfl
theorem BMO (c : Cht) : Dk.mk c (AG c).st (AG c).sp = AG c := rfl
theorem DJI {c : Cht} (h : nsIn c) : ∀ i, i < c.ns.length -> 0 <= (gD c.ns i).mi /\ (gD c.ns i).mi < c.ms.length := λ i hi => h _ (List.any_eq_true.2 ⟨_, CT hi, by simp⟩)
theorem CTN (n : Nat) : (idL n).length = n := by unfold idL; simp
theorem CCL (c : Cht) : (AY c).Perm (idL c.ns.length) := Ym _ _
theorem BXU (c : Cht) : (AY c).length = c.ns.length := by rw [(CCL c).length_eq, CTN]
theorem DII (c : Cht) {i : Nat} (hi : i < c.ns.length) : 0 <= gD (AY c) i /\ gD (AY c) i < c.ns.length := by
 have hm : gD (AY c) i ∈ idL c.ns.length := (CCL c).mem_iff.1 (CT (by rw [BXU]; exact hi))
 obtain ⟨k, hk, e⟩ := KQ hm
 rw [CTN] at hk
 have e2 : gD (idL c.ns.length) k = (k : Int) := CB _ _ _ hk
 rw [<- e, e2]; omega
theorem DJZ {c : Cht} {k : Nat} (hk : k <= c.ns.length) (h : ∀ t, t < k -> fwP c (CN c k).la (gD (AY c) k) (gD (AY c) t) = false) : CN c (k + 1) = CN c k := by
 show fwN c (CN c k) _ (((AY c).take k).find? _) = _
 rw [CDJ]
 ·rfl
 ·intro t ht
  have ht : t < k := by rw [List.length_take] at ht; omega
  rw [YN ht]; exact h t ht
theorem DKP {c : Cht} {k j : Nat} (hk : k <= c.ns.length) (hj : j < k) (h : ∀ t, t < j -> fwP c (CN c k).la (gD (AY c) k) (gD (AY c) t) = false) (h2 : fwP c (CN c k).la (gD (AY c) k) (gD (AY c) j) = true) : CN c (k + 1) = ⟨wr (miA c (gD (AY c) k) - 1), (CN c k).q ++ [wr (miA c (gD (AY c) k) - 1)], (CN c k).r ++ [⟨gD (AY c) j, gD (AY c) k⟩]⟩ := by
 have e : (((AY c).take k).find? (fwP c (CN c k).la (gD (AY c) k))) = some (gD ((AY c).take k) j) := CTT (by rw [List.length_take, BXU]; omega) (λ t ht => by rw [YN (by omega)]; exact h t ht) (by rw [YN hj]; exact h2)
 show fwN c (CN c k) _ (((AY c).take k).find? _) = _
 rw [e, YN hj]; rfl
theorem CXX (c : Cht) : ∀ k, (CN c k).q.length <= k /\ (CN c k).r.length = (CN c k).q.length
 | 0 => ⟨Nat.le_refl _, rfl⟩
 | k + 1 => by
  obtain ⟨h1, h2⟩ := CXX c k
  show (fwN c (CN c k) _ (((AY c).take k).find? _)).q.length <= _ /\ (fwN c (CN c k) _ (((AY c).take k).find? _)).r.length = (fwN c (CN c k) _ (((AY c).take k).find? _)).q.length
  cases ((AY c).take k).find? (fwP c (CN c k).la (gD (AY c) k)) with
  | none => exact ⟨by show (CN c k).q.length <= _; omega, h2⟩
  | some a =>
   refine ⟨?_, ?_⟩
   ·show ((CN c k).q ++ [_]).length <= _
    rw [List.length_append]; simp; omega
   ·show ((CN c k).r ++ [_]).length = ((CN c k).q ++ [_]).length
    rw [List.length_append, List.length_append]; simp; omega
theorem KA {α : Type} [Inhabited α] (l : List α) (x : α) (i : Nat) (h : i < l.length + 1) : gD (l ++ [x]) i = bif decide (i < l.length) then gD l i else x := by
 rw [ARU]
 by_cases h2 : i < l.length
 ·simp [h2]
 ·have : i - l.length = 0 := by omega
  rw [if_neg h2, this, decide_eq_false h2]; rfl
theorem DSU (c : Cht) (h1 : c.ms.length < 4611686018427387904 /\ c.ns.length < 4611686018427387904) (h0 : AO c = 0) (hn : 1 <= c.ns.length /\ c.ns.length <= 12) : DMP c := by
 have hl := EW h0
 have hs := rA h0
 have hM := DJI hs.1
 have hO := BXU c
 have hR := λ i (h : i < c.ns.length) => DII c h
 have hF := CXX c
 rw [DOF]; delta BIL ABG CLD CES CIJ CJW CDQ BIU qR CGX ACY BVG BSJ BOO BZK BWD BMM BMN BSS S6 BK HQ FN HK HH HN HI BJS WP BTM CAA U1 BQA Nz ABU X7 Cr BPD Cz Cc BXG Fb ES AAL BTG BPZ BKA BMX Ui Z8 N4 BUK BLE BMD FE FC FH FJ FA JD IV JN JB IU EB JC AAM ACH N0 R6 Wh CAC ADC BMP M8 Gf BMJ BWI O0 W7 N7 UR BX BY T2 BNF BOD BOE BNR BPG BTH BXV T8 BPP BKV BTE BNX BVX Ea BMH iU APZ AHN LT AJZ lZ iF cD pV TX BEG ALF BDB AQF ALS UG PC BEJ AJD oY Ee AXX ATY AWF AWA AHI ASE ARB ANM ATG mD ATC AUW AZM AST AFU AXM BCR AUS AXQ AFN AHG ARL AWS ALY AWP rB nI NX BAV AYZ TQ AND iY kP ASM Bs qS Fc pT AVI Bv By AZC Bl ANC BDI AUO Fp AUP AQG ALM AKC ASS AMK ARA BAO BAQ ATU AIT dN AYC AUD BDT AMY iG kL UM TT jL oH pX AXE BAY AII BDY AJA AOW BBF BBR kE jQ Eh NR Cq nC ATA AHW mR AML ARM AOM BDA iV AGX iA APR qQ BAU AXF El oV lJ PE ANJ AIN AGS APG AJP Cd Ca UH cA fC ASL BAW AVZ AXD BCK ARW AJQ ASI AMI AOP AGD BCE AKE APT AKD ASC mC jT AGK AVX ASR AXC AIC AVT BDV ARN AIZ AZO; simp only [CC, eq_self, implies_true, forall_const, BO, APC, Bf, CPD, BMO, DKR]
 have hI : ∀ i, i < c.ns.length -> gD (AE c.ns.length λ i => (i : Int)) i = (i : Int) := λ i hi => CB _ _ _ hi
 have hT : ∀ k j, j < k -> gD ((AY c).take k) j = gD (AY c) j := λ k j h => YN h
 have hTl : ∀ k, k <= c.ns.length -> ((AY c).take k).length = k := λ k h => by rw [List.length_take, hO]; omega
 have pre : ∀ x ∈ [0], True := λ _ _ => trivial
 refine ⟨⟨h1, h0⟩, ⟨⟨⟨default, trivial⟩, ?_, ?_⟩, λ _ => ⟨⟨⟨hI, hn.2, by omega, ?_⟩, default, hO, Nat.le_refl _, λ _ _ => rfl⟩, ⟨⟨0, ⟨rfl, by rw [hO], rfl⟩, Nat.zero_le _, rfl⟩, ?_, ?_⟩, ?_⟩⟩⟩
 ·refine ⟨λ _ => ⟨by decide, 1, ⟨rfl, by decide, rfl, λ i hi => by omega⟩, by omega, by omega⟩, λ h => h (by omega)⟩
 ·intro a ha
  refine ⟨λ h => ⟨⟨Nat.one_pos, (λ h => by cases h), by omega, by omega⟩, a + 1, ⟨rfl, by rw [EM (by omega) (by omega)]; rfl, rfl, λ i hi => ?_⟩, by omega, by omega⟩, λ h => ⟨default, by omega, by omega⟩⟩
  by_cases h2 : i < a
  ·rw [decide_eq_true h2]; rfl
  ·rw [decide_eq_false h2]; show (i : Int) = a; omega
 ·intro i hi; rw [hI i hi]; omega
 ·rintro k ⟨hk, hq⟩
  refine ⟨λ h => ?_, λ h => ?_⟩
  ·have hk2 : k < c.ns.length := by omega
   refine ⟨⟨⟨by omega, by omega⟩, ⟨by omega, by omega, by omega⟩, ⟨⟨k, 0⟩, ⟨rfl, hTl k hk, λ i hi => ?_, rfl, rfl, rfl, rfl⟩, ⟨hk2, rfl, Nat.zero_le _, λ t ht => absurd ht (Nat.not_lt_zero _)⟩, hq⟩, ?_⟩, ?_, ?_⟩
   ·rw [hT _ _ (by have hi : i < ((AY c).take k).length := hi; rw [hTl k hk] at hi; exact hi), show Int.toNat 0 = 0 from rfl, Nat.zero_add]
   ·rintro y ⟨⟨y1, y2, y3, y4⟩, y5⟩
    have hp : ∀ j, j < y.i -> (bif decide ((gD c.ns (gD ((AY c).take y.i) j).toNat).mi > (CN c y.i).la) then RJ c { a := gD ((AY c).take y.i) j, b := gD (AY c) y.i } else false) = fwP c (CN c y.i).la (gD (AY c) y.i) (gD (AY c) j) := λ j hj => by rw [hT _ _ hj]; rfl
    refine ⟨λ hj => ⟨⟨by omega, by rw [hTl _ (by omega)]; exact hj⟩, ⟨by rw [hT _ _ (by omega)]; exact hR _ (by omega), λ _ => ⟨⟨by rw [hT _ _ (by omega)]; exact hR _ (by omega), hR _ y1⟩, ⟨hl.2.1.2, hl.2.2⟩, hM⟩⟩, λ hc => ?_, λ hc => ?_⟩, λ hj => ?_⟩
    ·rw [hp _ (by omega)] at hc
     have e := DKP (by omega) (by omega) y4 hc
     rw [hT _ _ (by omega)]
     have h8 : (CN c y.i).r = [] := List.length_eq_zero_iff.1 (by rw [(hF y.i).2, y5]; rfl)
     refine ⟨hR _ y1, by decide, y.i, ?_, y1, y2, ?_⟩
     ·rw [e, y5, h8]
      refine ⟨rfl, rfl, rfl, rfl, rfl, λ i hi => ?_, rfl, λ i hi => ?_⟩
      ·have hi : i < 1 := hi
       obtain rfl : i = 0 := by omega
       rfl
      ·have hi : i < 1 := hi
       obtain rfl : i = 0 := by omega
       exact ⟨rfl, rfl⟩
     ·rw [e, y5]; exact Nat.one_pos
    ·rw [hp _ (by omega)] at hc
     have e : IntKind.i64.wrap ((y.j : Int) + 1) = ((y.j + 1 : Nat) : Int) := by rw [EM (by omega) (by omega)]; rfl
     refine ⟨⟨y.i, y.j + 1⟩, ⟨rfl, rfl, λ _ _ => rfl, rfl, e.symm, rfl, rfl⟩, ⟨⟨y1, y2, by show y.j + 1 <= y.i; omega, λ t ht => ?_⟩, y5⟩, by show _ - (y.j + 1) < _; omega⟩
     have ht : t < y.j + 1 := ht
     by_cases h2 : t = y.j
     ·subst h2; exact hc
     ·exact y4 t (by omega)
    ·have e := DJZ (by omega) (λ t (ht : t < y.i) => y4 t (by omega))
     refine ⟨y.i, ?_, y1, y2, ?_⟩
     ·rw [e]; exact ⟨rfl, rfl⟩
     ·rw [e]; exact y5
   ·rintro k' ⟨g1, g2, g3⟩
    refine ⟨k' + 1, ⟨rfl, by rw [EM (by omega) (by omega)]; rfl⟩, ⟨by omega, g3⟩, by omega⟩
   ·rintro k' ⟨g1, g2, g3⟩
    refine ⟨k' + 1, ⟨rfl, rfl, rfl, by rw [EM (by omega) (by omega)]; rfl, rfl, λ _ _ => rfl, rfl, λ _ _ => ⟨rfl, rfl⟩⟩, ⟨by omega, g3⟩, by omega⟩
  ·have e : k = c.ns.length := by omega
   have h8 : (CN c k).r = [] := List.length_eq_zero_iff.1 (by rw [(hF k).2, hq]; rfl)
   subst e
   exact ⟨default, by show (CN c _).q.length = 0; rw [hq]; rfl, by show (CN c _).q.length = 0; rw [hq]; rfl, by show (CN c _).r.length = 0; rw [h8]; rfl⟩
 ·rintro k ⟨hk, hq⟩
  refine ⟨λ h => ?_, λ h => ?_⟩
  ·have hk2 : k < c.ns.length := by omega
   refine ⟨⟨⟨by omega, by omega⟩, ⟨by omega, by omega, by omega⟩, ⟨⟨k, 0⟩, ⟨rfl, hTl k hk, λ i hi => ?_, rfl, rfl, rfl, rfl, rfl, rfl, rfl, λ _ _ => rfl, rfl, λ _ _ => ⟨rfl, rfl⟩⟩, ⟨hk2, rfl, Nat.zero_le _, λ t ht => absurd ht (Nat.not_lt_zero _)⟩, hq⟩, ?_⟩, ?_⟩
   ·rw [hT _ _ (by have hi : i < ((AY c).take k).length := hi; rw [hTl k hk] at hi; exact hi), show Int.toNat 0 = 0 from rfl, Nat.zero_add]
   ·rintro y ⟨⟨y1, y2, y3, y4⟩, y5⟩
    have hp : ∀ j, j < y.i -> (bif decide ((gD c.ns (gD ((AY c).take y.i) j).toNat).mi > (CN c y.i).la) then RJ c { a := gD ((AY c).take y.i) j, b := gD (AY c) y.i } else false) = fwP c (CN c y.i).la (gD (AY c) y.i) (gD (AY c) j) := λ j hj => by rw [hT _ _ hj]; rfl
    refine ⟨λ hj => ⟨⟨by omega, by rw [hTl _ (by omega)]; exact hj⟩, ⟨by rw [hT _ _ (by omega)]; exact hR _ (by omega), λ _ => ⟨⟨by rw [hT _ _ (by omega)]; exact hR _ (by omega), hR _ y1⟩, ⟨hl.2.1.2, hl.2.2⟩, hM⟩⟩, λ hc => ?_, λ hc => ?_⟩, λ hj => ?_⟩
    ·rw [hp _ (by omega)] at hc
     have e := DKP (by omega) (by omega) y4 hc
     rw [hT _ _ (by omega)]
     have h9 := hF y.i
     refine ⟨hR _ y1, ⟨⟨Nat.one_pos, (λ h => by cases h), by omega, by omega⟩, Nat.one_pos, (λ h => by cases h), by omega, by omega⟩, y.i, ?_, y1, y2, ?_⟩
     ·rw [e]
      refine ⟨by simp, by simp, rfl, rfl, by simp, λ i hi => ?_, by simp, λ i hi => ?_⟩
      ·exact KA _ _ _ (by simpa using hi)
      ·have hi2 : i < (CN c y.i).r.length + 1 := by simpa using hi
       show (gD ((CN c y.i).r ++ [_]) i).a = _ /\ (gD ((CN c y.i).r ++ [_]) i).b = _
       rw [KA _ _ _ hi2]
       cases decide (i < (CN c y.i).r.length) <;> exact ⟨rfl, rfl⟩
     ·rw [e]; simp
    ·rw [hp _ (by omega)] at hc
     have e : IntKind.i64.wrap ((y.j : Int) + 1) = ((y.j + 1 : Nat) : Int) := by rw [EM (by omega) (by omega)]; rfl
     refine ⟨⟨y.i, y.j + 1⟩, ⟨rfl, rfl, λ _ _ => rfl, rfl, e.symm, rfl, rfl, rfl, rfl, rfl, λ _ _ => rfl, rfl, λ _ _ => ⟨rfl, rfl⟩⟩, ⟨⟨y1, y2, by show y.j + 1 <= y.i; omega, λ t ht => ?_⟩, y5⟩, by show _ - (y.j + 1) < _; omega⟩
     have ht : t < y.j + 1 := ht
     by_cases h2 : t = y.j
     ·subst h2; exact hc
     ·exact y4 t (by omega)
    ·have e := DJZ (by omega) (λ t (ht : t < y.i) => y4 t (by omega))
     refine ⟨y.i, ?_, y1, y2, ?_⟩
     ·rw [e]; exact ⟨rfl, rfl, rfl, rfl, rfl, λ _ _ => rfl, rfl, λ _ _ => ⟨rfl, rfl⟩⟩
     ·rw [e]; exact y5
   ·rintro k' ⟨g1, g2, g3⟩
    refine ⟨k' + 1, ⟨rfl, rfl, rfl, by rw [EM (by omega) (by omega)]; rfl, rfl, λ _ _ => rfl, rfl, λ _ _ => ⟨rfl, rfl⟩⟩, ⟨by omega, g3⟩, by omega⟩
  ·have e : k = c.ns.length := by omega
   subst e
   exact ⟨default, rfl, Nat.le_refl _, λ _ _ => rfl, rfl, Nat.le_refl _, λ _ _ => ⟨rfl, rfl⟩⟩
 ·have h9 := hF c.ns.length
  refine ⟨⟨λ _ => rfl, by have : (Af c).q.length <= c.ns.length := h9.1; omega, hl.2.1.2⟩, ⟨hl.2.1.1, hl.2.1.2, hs.1⟩, λ hc => ?_, λ hc => ?_⟩
  ·have hc : (AX (fwW c)).2 = false := hc
   unfold K8; rw [hc]; exact ⟨rfl, rfl, rfl, rfl, rfl⟩
  ·have hc : (AX (fwW c)).2 = true := hc
   unfold K8; rw [hc]; exact ⟨rfl, λ _ _ => rfl, rfl, λ _ _ => ⟨rfl, rfl⟩, rfl⟩
def C_insZ : Ctr := { ro := [100], α := Cht, xs := λ _ => [.d GE, .int 0, .int 0, .fn (.func RG) [] [.bptr 100 0]], L := λ c => [(100, chB c)], val := λ _ => .d (.tup []), keep := λ c => [(100, .live (chB c))] }
def DEU : List AVal -> Heap -> Option (Cht × List (Nat × Nat) × List Nat)
 | [.d _, _, _, .fn _ _ [.bptr id _]], H => match VK H id with
  | some q => some (q, [(100, id)], [])
  | none => none
 | _, _ => none
def iz1 (c : Cht) : Shape := { α := One, dflt := default, T := λ _ => ⟨[(0, .d GE), (1, .int 0), (2, .int 0), (3, .fn (.func RG) [] [.bptr 100 0]), (8, .int 1)], [(100, .live (chB c))]⟩, inv := λ _ => True, meas := λ _ => 0 }
def CYZ (c : Cht) : Ann := { ann 53 [] with E := [100], loops := λ id => if id = 1 then some [iz1 c] else none }
def DCV (c : Cht) : Prop := AZ Try.prog (CYZ c) BRI (AN BRI) (C_insZ.xs c) (AF (C_insZ.L c)) (C_insZ.val c) (C_insZ.keep c) [] []
theorem DHT (c : Cht) : (DCV c) = ((∃ (a : One), ((0 : Nat) = (0 : Nat) /\ (∀ (i : Nat), i < (0 : Nat) -> false = false) /\ Int.ofNat (0 : Nat) = Int.ofNat (0 : Nat) /\ Int.ofNat (0 : Nat) = Int.ofNat (0 : Nat) /\
 Int.ofNat (1 : Nat) = Int.ofNat (((0 : Nat) + (1 : Nat)) % ((2 : Int) ^ IntKind.i64.bits).natAbs) /\ c.p.lo = c.p.lo /\ c.p.hi = c.p.hi /\ c.base = c.base /\ c.scale = c.scale /\ c.off = c.off /\ c.ms.length = c.ms.length /\ (∀
 (i : Nat), i < c.ms.length -> (gD c.ms i).pl = (gD c.ms i).pl /\ (gD c.ms i).ht = (gD c.ms i).ht) /\ c.ns.length = c.ns.length /\ ∀ (i : Nat), i < c.ns.length -> (gD c.ns i).mi = (gD c.ns i).mi /\ (gD c.ns i).t.lo = (gD c.ns
 i).t.lo /\ (gD c.ns i).t.hi = (gD c.ns i).t.hi /\ (gD c.ns i).s.lo = (gD c.ns i).s.lo /\ (gD c.ns i).s.hi = (gD c.ns i).s.hi) /\ True) /\ ∀ (a : One), True -> c.p.lo = c.p.lo /\ c.p.hi = c.p.hi /\ c.base = c.base /\ c.scale =
 c.scale /\ c.off = c.off /\ c.ms.length = c.ms.length /\ (∀ (i : Nat), i < c.ms.length -> (gD c.ms i).pl = (gD c.ms i).pl /\ (gD c.ms i).ht = (gD c.ms i).ht) /\ c.ns.length = c.ns.length /\ ∀ (i : Nat), i < c.ns.length -> (gD
 c.ns i).mi = (gD c.ns i).mi /\ (gD c.ns i).t.lo = (gD c.ns i).t.lo /\ (gD c.ns i).t.hi = (gD c.ns i).t.hi /\ (gD c.ns i).s.lo = (gD c.ns i).s.lo /\ (gD c.ns i).s.hi = (gD c.ns i).s.hi) := by kernel_rfl
theorem DFQ : AP Try.prog AIU (C_insZ.spec DEU) := MC C_insZ CYZ [] [] CTJ (λ _ => by kernel_rfl) (λ _ => AK) (λ (c : Cht) _ => by
 show DCV c; rw [DHT]; exact ⟨⟨default, by simp; rfl, trivial⟩, λ _ _ => by simp⟩) (λ _ => MO rfl rfl) _
def C_pdqZ : Ctr := { ro := [100], α := Cht, xs := λ _ => [.d GE, .int 0, .int 0, .any, .fn (.func RG) [] [.bptr 100 0]], L := λ c => [(100, chB c)], val := λ _ => .d (.tup []), keep := λ c => [(100, .live (chB c))] }
def DCR : List AVal -> Heap -> Option (Cht × List (Nat × Nat) × List Nat)
 | [.d _, _, _, _, .fn _ _ [.bptr id _]], H => match VK H id with
  | some q => some (q, [(100, id)], [])
  | none => none
 | _, _ => none
def pz2 (c : Cht) : Shape := { α := One, dflt := default, T := λ _ => ⟨[(0, .d GE), (1, .int 0), (2, .int 0), (3, .any), (4, .fn (.func RG) [] [.bptr 100 0]), (10, .bool true), (11, .bool true)], [(100, .live (chB c))]⟩, inv := λ _ => True, meas := λ _ => 0 }
def DAW (c : Cht) : Ann := { ann 148 [(AIU, C_insZ.spec DEU)] with E := [100], loops := λ id => if id = 2 then some [pz2 c] else none }
def DAK (c : Cht) : Prop := AZ Try.prog (DAW c) CPF (AN CPF) (C_pdqZ.xs c) (AF (C_pdqZ.L c)) (C_pdqZ.val c) (C_pdqZ.keep c) [] []
theorem DGS (c : Cht) : (DAK c) = ((∃ (a : One), ((0 : Nat) = (0 : Nat) /\ (∀ (i : Nat), i < (0 : Nat) -> false = false) /\ Int.ofNat (0 : Nat) = Int.ofNat (0 : Nat) /\ Int.ofNat (0 : Nat) = Int.ofNat (0 : Nat) /\ true
 = true /\ true = true /\ c.p.lo = c.p.lo /\ c.p.hi = c.p.hi /\ c.base = c.base /\ c.scale = c.scale /\ c.off = c.off /\ c.ms.length = c.ms.length /\ (∀ (i : Nat), i < c.ms.length -> (gD c.ms i).pl = (gD c.ms i).pl /\ (gD c.ms
 i).ht = (gD c.ms i).ht) /\ c.ns.length = c.ns.length /\ ∀ (i : Nat), i < c.ns.length -> (gD c.ns i).mi = (gD c.ns i).mi /\ (gD c.ns i).t.lo = (gD c.ns i).t.lo /\ (gD c.ns i).t.hi = (gD c.ns i).t.hi /\ (gD c.ns i).s.lo = (gD
 c.ns i).s.lo /\ (gD c.ns i).s.hi = (gD c.ns i).s.hi) /\ True) /\ ∀ (a : One), True -> ((0 : Nat) = (0 : Nat) /\ (∀ (i : Nat), i < (0 : Nat) -> false = false) /\ Int.ofNat (0 : Nat) = Int.ofNat (0 : Nat) /\ Int.ofNat (0 : Nat) =
 Int.ofNat (0 : Nat) /\ c.p.lo = c.p.lo /\ c.p.hi = c.p.hi /\ c.base = c.base /\ c.scale = c.scale /\ c.off = c.off /\ (AE c.ms.length λ (i : Nat) => gD c.ms i).length = c.ms.length /\ (∀ (i : Nat), i < (AE c.ms.length fun
 (i : Nat) => gD c.ms i).length -> (gD (AE c.ms.length λ (i : Nat) => gD c.ms i) i).pl = (gD c.ms i).pl /\ (gD (AE c.ms.length λ (i : Nat) => gD c.ms i) i).ht = (gD c.ms i).ht) /\ (AE c.ns.length λ (i : Nat) => gD
 c.ns i).length = c.ns.length /\ (∀ (i : Nat), i < (AE c.ns.length λ (i : Nat) => gD c.ns i).length -> (gD (AE c.ns.length λ (i : Nat) => gD c.ns i) i).mi = (gD c.ns i).mi /\ (gD (AE c.ns.length λ (i : Nat) => gD
 c.ns i) i).t.lo = (gD c.ns i).t.lo /\ (gD (AE c.ns.length λ (i : Nat) => gD c.ns i) i).t.hi = (gD c.ns i).t.hi /\ (gD (AE c.ns.length λ (i : Nat) => gD c.ns i) i).s.lo = (gD c.ns i).s.lo /\ (gD (AE c.ns.length λ (i
 : Nat) => gD c.ns i) i).s.hi = (gD c.ns i).s.hi) /\ c.p.lo = c.p.lo /\ c.p.hi = c.p.hi /\ c.base = c.base /\ c.scale = c.scale /\ c.off = c.off /\ c.ms.length = (AE c.ms.length λ (i : Nat) => gD c.ms i).length /\ (∀ (i :
 Nat), i < c.ms.length -> (gD c.ms i).pl = (gD (AE c.ms.length λ (i : Nat) => gD c.ms i) i).pl /\ (gD c.ms i).ht = (gD (AE c.ms.length λ (i : Nat) => gD c.ms i) i).ht) /\ c.ns.length = (AE c.ns.length λ (i : Nat) =>
 gD c.ns i).length /\ ∀ (i : Nat), i < c.ns.length -> (gD c.ns i).mi = (gD (AE c.ns.length λ (i : Nat) => gD c.ns i) i).mi /\ (gD c.ns i).t.lo = (gD (AE c.ns.length λ (i : Nat) => gD c.ns i) i).t.lo /\ (gD c.ns i).t.hi
 = (gD (AE c.ns.length λ (i : Nat) => gD c.ns i) i).t.hi /\ (gD c.ns i).s.lo = (gD (AE c.ns.length λ (i : Nat) => gD c.ns i) i).s.lo /\ (gD c.ns i).s.hi = (gD (AE c.ns.length λ (i : Nat) => gD c.ns i) i).s.hi) /\
 c.p.lo = c.p.lo /\ c.p.hi = c.p.hi /\ c.base = c.base /\ c.scale = c.scale /\ c.off = c.off /\ c.ms.length = c.ms.length /\ (∀ (i : Nat), i < c.ms.length -> (gD c.ms i).pl = (gD c.ms i).pl /\ (gD c.ms i).ht = (gD c.ms i).ht) /\
 c.ns.length = c.ns.length /\ ∀ (i : Nat), i < c.ns.length -> (gD c.ns i).mi = (gD c.ns i).mi /\ (gD c.ns i).t.lo = (gD c.ns i).t.lo /\ (gD c.ns i).t.hi = (gD c.ns i).t.hi /\ (gD c.ns i).s.lo = (gD c.ns i).s.lo /\ (gD c.ns
 i).s.hi = (gD c.ns i).s.hi) := by kernel_rfl
theorem DID : AP Try.prog CBZ (C_pdqZ.spec DCR) := MC C_pdqZ DAW [] [] CYT (λ _ => by kernel_rfl) (λ _ => AD DFQ AK) (λ (c : Cht) _ => by
 show DAK c; rw [DGS]; simp only [CC, eq_self, implies_true, forall_const]; exact ⟨default, trivial⟩) (λ _ => MO rfl rfl) _
def C_sortZ : Ctr := { ro := [100], α := Cht, xs := λ _ => [.d GE, .fn (.func RG) [] [.bptr 100 0]], L := λ c => [(100, chB c)], val := λ _ => .d (.tup []), keep := λ c => [(100, .live (chB c))] }
def CVA : List AVal -> Heap -> Option (Cht × List (Nat × Nat) × List Nat)
 | [.d _, .fn _ _ [.bptr id _]], H => match VK H id with
  | some q => some (q, [(100, id)], [])
  | none => none
 | _, _ => none
def CWE : Ann := { ann 14 [(CDI, CCR), (CBZ, C_pdqZ.spec DCR)] with E := [100] }
def CVG (c : Cht) : Prop := AZ Try.prog CWE Q2 (AN Q2) (C_sortZ.xs c) (AF (C_sortZ.L c)) (C_sortZ.val c) (C_sortZ.keep c) [] []
theorem DFB (c : Cht) : (CVG c) = ((((0 : Int) <= IntKind.u64.wrap (↑(0 : Nat) : Int) /\ IntKind.u64.wrap (↑(0 : Nat) : Int) <= (20 : Int)) /\ (0 : Nat) = (0 : Nat) /\ (∀ (i : Nat), i < (0 : Nat) -> false = false) /\
 Int.ofNat (0 : Nat) = Int.ofNat (0 : Nat) /\ Int.ofNat (0 : Nat) = Int.ofNat (0 : Nat) /\ c.p.lo = c.p.lo /\ c.p.hi = c.p.hi /\ c.base = c.base /\ c.scale = c.scale /\ c.off = c.off /\ (AE c.ms.length λ (i : Nat) => gD c.ms
 i).length = c.ms.length /\ (∀ (i : Nat), i < (AE c.ms.length λ (i : Nat) => gD c.ms i).length -> (gD (AE c.ms.length λ (i : Nat) => gD c.ms i) i).pl = (gD c.ms i).pl /\ (gD (AE c.ms.length λ (i : Nat) => gD c.ms i)
 i).ht = (gD c.ms i).ht) /\ (AE c.ns.length λ (i : Nat) => gD c.ns i).length = c.ns.length /\ (∀ (i : Nat), i < (AE c.ns.length λ (i : Nat) => gD c.ns i).length -> (gD (AE c.ns.length λ (i : Nat) => gD c.ns i) i).mi
 = (gD c.ns i).mi /\ (gD (AE c.ns.length λ (i : Nat) => gD c.ns i) i).t.lo = (gD c.ns i).t.lo /\ (gD (AE c.ns.length λ (i : Nat) => gD c.ns i) i).t.hi = (gD c.ns i).t.hi /\ (gD (AE c.ns.length λ (i : Nat) => gD c.ns
 i) i).s.lo = (gD c.ns i).s.lo /\ (gD (AE c.ns.length λ (i : Nat) => gD c.ns i) i).s.hi = (gD c.ns i).s.hi) /\ c.p.lo = c.p.lo /\ c.p.hi = c.p.hi /\ c.base = c.base /\ c.scale = c.scale /\ c.off = c.off /\ c.ms.length = (AE
 c.ms.length λ (i : Nat) => gD c.ms i).length /\ (∀ (i : Nat), i < c.ms.length -> (gD c.ms i).pl = (gD (AE c.ms.length λ (i : Nat) => gD c.ms i) i).pl /\ (gD c.ms i).ht = (gD (AE c.ms.length λ (i : Nat) => gD c.ms i)
 i).ht) /\ c.ns.length = (AE c.ns.length λ (i : Nat) => gD c.ns i).length /\ ∀ (i : Nat), i < c.ns.length -> (gD c.ns i).mi = (gD (AE c.ns.length λ (i : Nat) => gD c.ns i) i).mi /\ (gD c.ns i).t.lo = (gD (AE
 c.ns.length λ (i : Nat) => gD c.ns i) i).t.lo /\ (gD c.ns i).t.hi = (gD (AE c.ns.length λ (i : Nat) => gD c.ns i) i).t.hi /\ (gD c.ns i).s.lo = (gD (AE c.ns.length λ (i : Nat) => gD c.ns i) i).s.lo /\ (gD c.ns
 i).s.hi = (gD (AE c.ns.length λ (i : Nat) => gD c.ns i) i).s.hi) /\ c.p.lo = c.p.lo /\ c.p.hi = c.p.hi /\ c.base = c.base /\ c.scale = c.scale /\ c.off = c.off /\ c.ms.length = c.ms.length /\ (∀ (i : Nat), i < c.ms.length ->
 (gD c.ms i).pl = (gD c.ms i).pl /\ (gD c.ms i).ht = (gD c.ms i).ht) /\ c.ns.length = c.ns.length /\ ∀ (i : Nat), i < c.ns.length -> (gD c.ns i).mi = (gD c.ns i).mi /\ (gD c.ns i).t.lo = (gD c.ns i).t.lo /\ (gD c.ns i).t.hi =
 (gD c.ns i).t.hi /\ (gD c.ns i).s.lo = (gD c.ns i).s.lo /\ (gD c.ns i).s.hi = (gD c.ns i).s.hi) := by kernel_rfl
theorem DCP : AP Try.prog AEZ (C_sortZ.spec CVA) := MC C_sortZ (λ _ => CWE) [] [] CNI (λ _ => by kernel_rfl) (λ _ => AD DEM (AD DID AK)) (λ (c : Cht) _ => by
 show CVG c; rw [DFB]; simp only [CC, eq_self, implies_true, forall_const]; rw [u64w (by omega) (by omega)]; omega) (λ _ => MO rfl rfl) _
def fz6 (c : Cht) : Shape := { α := One, dflt := default, T := λ _ => ⟨(7, .d GE) :: fw6S c 0, fwH c⟩, inv := λ _ => c.ns.length = 0, meas := λ _ => 60, first := fwR }
def fz15 (c : Cht) : Shape := { α := One, dflt := default, T := λ _ => ⟨CVB ++ [(1, .bptr 201 0), (5, .bptr 203 0), (7, .d GE), (11, .int (-1)), (41, .d GE), (42, .int 0), (43, .int 0)], fwH c⟩, inv := λ _ => c.ns.length = 0, meas := λ _ => 60 }
def DBX (c : Cht) : Ann := { ann 101 [(HG, C_open.spec dC1), (AEZ, C_sortZ.spec CVA), (BRU, C_stop.spec dDkZ), (P6, C_times.spec dDk1)] with loops := λ id => if id = 6 then some [fz6 c] else if id = 15 then some [fz15 c] else none }
def DDS (c : Cht) : Prop := AZ Try.prog (DBX c) VC (AN VC) [.d (VZ c)] (AF []) (.tup [.d (CI (K8 c).q), .d (Ga (K8 c).r), .int (K8 c).e]) [] [] []
abbrev AAJ (c : Cht) : List Mk := AE c.ms.length λ (i : Nat) => gD c.ms i
abbrev Wf (c : Cht) : Nat := (AAJ c).length
abbrev BOP (c : Cht) : Prop := Wf c = c.ms.length
abbrev CBC (c : Cht) (i : Nat) : Mk := gD (AAJ c) i
abbrev BYB (c : Cht) (i : Nat) : Int := (CBC c i).pl
abbrev BWO (c : Cht) (i : Nat) : Int := (CBC c i).ht
abbrev BRZ (c : Cht) : Prop := ∀ (i : Nat), i < Wf c -> BYB c i = (gD c.ms i).pl /\ BWO c i = (gD c.ms i).ht
abbrev AEN (c : Cht) : List Nt := AE c.ns.length λ (i : Nat) => gD c.ns i
abbrev Nx (c : Cht) : Nat := (AEN c).length
abbrev BMT (c : Cht) : Prop := Nx c = c.ns.length
abbrev nD (c : Cht) (i : Nat) : Nt := gD (AEN c) i
abbrev AJH (c : Cht) (i : Nat) : Int := (nD c i).mi
abbrev AXY (c : Cht) (i : Nat) : Span := (nD c i).t
abbrev AHX (c : Cht) (i : Nat) : Int := (AXY c i).lo
abbrev AFG (c : Cht) (i : Nat) : Int := (AXY c i).hi
abbrev AOL (c : Cht) (i : Nat) : Span := (nD c i).s
abbrev AJO (c : Cht) (i : Nat) : Int := (AOL c i).lo
abbrev ARX (c : Cht) (i : Nat) : Int := (AOL c i).hi
abbrev AIO (c : Cht) : Prop := ∀ (i : Nat), i < Nx c -> AJH c i = (gD c.ns i).mi /\ AHX c i = (gD c.ns i).t.lo /\ AFG c i = (gD c.ns i).t.hi /\ AJO c i = (gD c.ns i).s.lo /\ ARX c i =
 (gD c.ns i).s.hi
abbrev AYK (c : Cht) : Cht := Cht.mk c.p c.base c.scale c.off (AAJ c) (AEN c)
abbrev JS : Prop := (0 : Nat) = (0 : Nat)
abbrev NW : Prop := ∀ (i : Nat), i < (0 : Nat) -> false = false
abbrev jO : Prop := Int.ofNat (0 : Nat) = Int.ofNat (0 : Nat)
abbrev ATK (c : Cht) : Prop := c.ms.length = c.ms.length
abbrev ANY (c : Cht) : Prop := ∀ (i : Nat), i < c.ms.length -> (gD c.ms i).pl = (gD c.ms i).pl /\ (gD c.ms i).ht = (gD c.ms i).ht
abbrev AQM (c : Cht) : Prop := c.ns.length = c.ns.length
abbrev AQW (c : Cht) : Prop := ∀ (i : Nat), i < c.ns.length -> (gD c.ns i).mi = (gD c.ns i).mi /\ (gD c.ns i).t.lo = (gD c.ns i).t.lo /\ (gD c.ns i).t.hi = (gD c.ns i).t.hi /\ (gD c.ns i).s.lo = (gD c.ns i).s.lo /\ (gD
 c.ns i).s.hi = (gD c.ns i).s.hi
abbrev BAD (c : Cht) : Dk := AG (AYK c)
abbrev ND (c : Cht) : Cht := (BAD c).c
abbrev AWZ (c : Cht) : Span := (ND c).p
abbrev ARF (c : Cht) : List Mk := (ND c).ms
abbrev AYD (i : Nat) (c : Cht) : Prop := i < (AG c).c.ms.length
abbrev AQS (c : Cht) (i : Nat) : Mk := gD (ARF c) i
abbrev Dx (c : Cht) : List Nt := (ND c).ns
abbrev AFJ (i : Nat) (c : Cht) : Prop := i < (AG c).c.ns.length
abbrev fK (c : Cht) (i : Nat) : Nt := gD (Dx c) i
abbrev Gq (c : Cht) (i : Nat) : Int := (gD (AG c).c.ns i).t.lo
abbrev AMC (c : Cht) (i : Nat) : Span := (fK c i).t
abbrev Dt (c : Cht) (i : Nat) : Int := (gD (AG c).c.ns i).t.hi
abbrev Dr (c : Cht) (i : Nat) : Int := (gD (AG c).c.ns i).s.lo
abbrev AZJ (c : Cht) (i : Nat) : Span := (fK c i).s
abbrev Ci (c : Cht) (i : Nat) : Int := (gD (AG c).c.ns i).s.hi
abbrev SC : Prop := ∀ (i : Nat), i < (40 : Nat) -> false = false
abbrev qU (c : Cht) (n : Int) : Nt := ntOf (Dx c) n
abbrev AUX (c : Cht) (n : Int) : Span := (qU c n).t
abbrev BCX (c : Cht) (n : Int) : Span := (qU c n).s
abbrev Gb (c : Cht) : Prop := c.ns.length = (0 : Nat)
abbrev AIF : Prop := (0 : Nat) < (1 : Nat)
abbrev ANI (c : Cht) : Prop := (AG c).c.p.lo = (AG c).c.p.lo
abbrev AHZ (c : Cht) : Prop := (AG c).c.p.hi = (AG c).c.p.hi
abbrev ALZ (c : Cht) : Prop := (AG c).c.base = (AG c).c.base
abbrev AYX (c : Cht) : Prop := (AG c).c.scale = (AG c).c.scale
abbrev AFD (c : Cht) : Prop := (AG c).c.off = (AG c).c.off
abbrev Dz (c : Cht) : Prop := ∀ (n : Int), (AG c).st n = (AG c).st n
abbrev kY (c : Cht) : List Mk := AE (AG c).c.ms.length λ (i : Nat) => gD (AG c).c.ms i
abbrev fM (c : Cht) : Nat := (kY c).length
abbrev AFQ (c : Cht) (i : Nat) : Mk := gD (kY c) i
abbrev SQ (c : Cht) : List Nt := AE (AG c).c.ns.length λ (i : Nat) => gD (AG c).c.ns i
abbrev AQJ (c : Cht) : Nat := (SQ c).length
abbrev nL (c : Cht) (i : Nat) : Nt := gD (SQ c) i
abbrev AYU (c : Cht) (i : Nat) : Span := (nL c i).t
abbrev ANN (c : Cht) (i : Nat) : Span := (nL c i).s
abbrev eK (c : Cht) (n : Int) : Nt := ntOf (SQ c) n
abbrev AJB (c : Cht) (n : Int) : Span := (eK c n).t
abbrev AVP (c : Cht) (n : Int) : Span := (eK c n).s
abbrev eO (c : Cht) : Dk := lA (DkZ.mk (Dk.mk (Cht.mk (AG c).c.p (AG c).c.base (AG c).c.scale (AG c).c.off (kY c) (SQ c)) (AG c).st (AG c).sp) (AE (0 : Nat) λ (i : Nat) => default))
abbrev OK (c : Cht) : Cht := (eO c).c
abbrev Dg (c : Cht) : List Nt := (OK c).ns
abbrev pE (c : Cht) (n : Int) : Nt := ntOf (Dg c) n
abbrev AKH (c : Cht) (n : Int) : Span := (pE c n).t
abbrev AGQ (c : Cht) (n : Int) : Span := (pE c n).s
abbrev kW (c : Cht) : Span := (OK c).p
abbrev BBE (c : Cht) : Int := (kW c).lo
abbrev AUQ (c : Cht) : Prop := BBE c = BBE c
abbrev BDW (c : Cht) : Int := (kW c).hi
abbrev AWJ (c : Cht) : Prop := BDW c = BDW c
abbrev eJ (c : Cht) : Int := (OK c).base
abbrev ATZ (c : Cht) : Prop := eJ c = eJ c
abbrev rC (c : Cht) : Int := (OK c).scale
abbrev BCS (c : Cht) : Prop := rC c = rC c
abbrev cF (c : Cht) : Int := (OK c).off
abbrev AIR (c : Cht) : Prop := cF c = cF c
abbrev AGC (c : Cht) : List Mk := (OK c).ms
abbrev Cv (c : Cht) : Nat := (AGC c).length
abbrev fS (c : Cht) (i : Nat) : Mk := gD (AGC c) i
abbrev gI (c : Cht) : List Mk := AE (Cv c) λ (i : Nat) => fS c i
abbrev OL (c : Cht) : Nat := (gI c).length
abbrev ARC (c : Cht) (i : Nat) : Mk := gD (gI c) i
abbrev AOR (c : Cht) (i : Nat) : Int := (ARC c i).pl
abbrev AKY (c : Cht) (i : Nat) : Int := (fS c i).pl
abbrev AQH (c : Cht) (i : Nat) : Int := (ARC c i).ht
abbrev AMW (c : Cht) (i : Nat) : Int := (fS c i).ht
abbrev Dw (c : Cht) : Nat := (Dg c).length
abbrev Et (c : Cht) (i : Nat) : Nt := gD (Dg c) i
abbrev SB (c : Cht) : List Nt := AE (Dw c) λ (i : Nat) => Et c i
abbrev lB (c : Cht) : Nat := (SB c).length
abbrev qV (c : Cht) (i : Nat) : Nt := gD (SB c) i
abbrev BEK (c : Cht) (i : Nat) : Int := (qV c i).mi
abbrev AXR (c : Cht) (i : Nat) : Int := (Et c i).mi
abbrev AFV (c : Cht) (i : Nat) : Span := (qV c i).t
abbrev tY (c : Cht) (i : Nat) : Int := (AFV c i).lo
abbrev J1 (c : Cht) (i : Nat) : Span := (Et c i).t
abbrev vR (c : Cht) (i : Nat) : Int := (J1 c i).lo
abbrev I0 (c : Cht) (i : Nat) : Int := (AFV c i).hi
abbrev K3 (c : Cht) (i : Nat) : Int := (J1 c i).hi
abbrev F8 (c : Cht) (i : Nat) : Span := (qV c i).s
abbrev xG (c : Cht) (i : Nat) : Int := (F8 c i).lo
abbrev sZ (c : Cht) (i : Nat) : Span := (Et c i).s
abbrev tH (c : Cht) (i : Nat) : Int := (sZ c i).lo
abbrev sV (c : Cht) (i : Nat) : Int := (F8 c i).hi
abbrev yQ (c : Cht) (i : Nat) : Int := (sZ c i).hi
abbrev Iq (c : Cht) (n : Int) : Bool := hasN (SB c) n
abbrev Mq (c : Cht) (n : Int) : Nt := ntOf (SB c) n
abbrev vS (c : Cht) (n : Int) : Int := (Mq c n).mi
abbrev sF (c : Cht) (n : Int) : Span := (Mq c n).t
abbrev K2 (c : Cht) (n : Int) : Int := (sF c n).lo
abbrev wW (c : Cht) (n : Int) : Int := (sF c n).hi
abbrev tQ (c : Cht) (n : Int) : Span := (Mq c n).s
abbrev wU (c : Cht) (n : Int) : Int := (tQ c n).lo
abbrev F1 (c : Cht) (n : Int) : Int := (tQ c n).hi
abbrev UQ (c : Cht) : Prop := (K8 c).q.length = (0 : Nat)
abbrev VT (c : Cht) : Prop := (K8 c).r.length = (0 : Nat)
theorem DHO (c : Cht) : (DDS c) = ((c.p.lo = c.p.lo /\ c.p.hi = c.p.hi /\ c.base = c.base /\ c.scale = c.scale /\ c.off = c.off /\ BOP c /\ BRZ c /\ BMT c /\ AIO c /\ (Wf c < (4611686018427387904
 : Nat) /\ Nx c < (4611686018427387904 : Nat)) /\ AO (AYK c) = (0 : Int)) /\ (∃ (a : One), (JS /\ NW /\ (↑c.ns.length : Int) = (↑c.ns.length : Int) /\ jO /\ c.p.lo = c.p.lo /\ c.p.hi = c.p.hi
 /\ c.base = c.base /\ c.scale = c.scale /\ c.off = c.off /\ ATK c /\ ANY c /\ AQM c /\ AQW c /\ (AG c).c.p.lo = (AWZ c).lo /\ (AG c).c.p.hi = (AWZ c).hi /\ (AG c).c.base = (ND
 c).base /\ (AG c).c.scale = (ND c).scale /\ (AG c).c.off = (ND c).off /\ (AG c).c.ms.length = (ARF c).length /\ (∀ (i : Nat), AYD i c -> (gD (AG c).c.ms i).pl = (AQS c i).pl /\ (gD (AG
 c).c.ms i).ht = (AQS c i).ht) /\ (AG c).c.ns.length = (Dx c).length /\ (∀ (i : Nat), AFJ i c -> (gD (AG c).c.ns i).mi = (fK c i).mi /\ Gq c i = (AMC c i).lo /\ Dt c i =
 (AMC c i).hi /\ Dr c i = (AZJ c i).lo /\ Ci c i = (AZJ c i).hi) /\ SC /\ AU = AU /\ (∀ (n : Int), hasN (AG c).c.ns n = hasN (Dx c) n) /\ (∀ (n : Int), (AG c).st n =
 (BAD c).st n) /\ ∀ (n : Int), (ntOf (AG c).c.ns n).mi = (qU c n).mi /\ (ntOf (AG c).c.ns n).t.lo = (AUX c n).lo /\ (ntOf (AG c).c.ns n).t.hi = (AUX c n).hi /\ (ntOf (AG c).c.ns n).s.lo =
 (BCX c n).lo /\ (ntOf (AG c).c.ns n).s.hi = (BCX c n).hi) /\ Gb c) /\ ∀ (a : One), Gb c -> bif decide ((↑(0 : Nat) : Int) < (↑c.ns.length : Int)) then ((True /\ ((0 : Nat) < (0 : Nat) -> (0 : Nat) =
 (1 : Nat))) /\ ((1 : Nat) <= (1 : Nat) /\ (AIF -> (1 : Nat) = (1 : Nat))) /\ (false = true -> AIF) /\ (1 : Nat) <= (9223372036854775807 : Nat) /\ (8 : Nat) <= (140737488355328 : Nat)) /\ False else (JS /\
 NW /\ c.p.lo = c.p.lo /\ c.p.hi = c.p.hi /\ c.base = c.base /\ c.scale = c.scale /\ c.off = c.off /\ BOP c /\ BRZ c /\ BMT c /\ AIO c /\ c.p.lo = c.p.lo /\ c.p.hi = c.p.hi /\ c.base = c.base /\ c.scale =
 c.scale /\ c.off = c.off /\ c.ms.length = Wf c /\ (∀ (i : Nat), i < c.ms.length -> (gD c.ms i).pl = BYB c i /\ (gD c.ms i).ht = BWO c i) /\ c.ns.length = Nx c /\ ∀ (i : Nat), i < c.ns.length -> (gD c.ns
 i).mi = AJH c i /\ (gD c.ns i).t.lo = AHX c i /\ (gD c.ns i).t.hi = AFG c i /\ (gD c.ns i).s.lo = AJO c i /\ (gD c.ns i).s.hi = ARX c i) /\ (∃ (a : One), (JS /\ NW /\ JS /\
 NW /\ JS /\ NW /\ Int.negSucc (0 : Nat) = Int.negSucc (0 : Nat) /\ JS /\ NW /\ jO /\ jO /\ c.p.lo = c.p.lo /\ c.p.hi = c.p.hi /\ c.base = c.base /\ c.scale = c.scale /\ c.off = c.off
 /\ ATK c /\ ANY c /\ AQM c /\ AQW c /\ ANI c /\ AHZ c /\ ALZ c /\ AYX c /\ AFD c /\ (AG c).c.ms.length = (AG c).c.ms.length /\ (∀ (i : Nat), AYD i c -> (gD (AG
 c).c.ms i).pl = (gD (AG c).c.ms i).pl /\ (gD (AG c).c.ms i).ht = (gD (AG c).c.ms i).ht) /\ (AG c).c.ns.length = (AG c).c.ns.length /\ (∀ (i : Nat), AFJ i c -> (gD (AG c).c.ns i).mi = (gD (AG c).c.ns i).mi
 /\ Gq c i = Gq c i /\ Dt c i = Dt c i /\ Dr c i = Dr c i /\ Ci c i = Ci c i) /\ SC /\ AU = AU /\ (∀ (n : Int), hasN (AG c).c.ns n = hasN (AG c).c.ns n) /\
 Dz c /\ ∀ (n : Int), (ntOf (AG c).c.ns n).mi = (ntOf (AG c).c.ns n).mi /\ (ntOf (AG c).c.ns n).t.lo = (ntOf (AG c).c.ns n).t.lo /\ (ntOf (AG c).c.ns n).t.hi = (ntOf (AG c).c.ns n).t.hi /\ (ntOf (AG
 c).c.ns n).s.lo = (ntOf (AG c).c.ns n).s.lo /\ (ntOf (AG c).c.ns n).s.hi = (ntOf (AG c).c.ns n).s.hi) /\ Gb c) /\ ∀ (a : One), Gb c -> (JS /\ JS /\ ANI c /\ AHZ c /\ ALZ c /\
 AYX c /\ AFD c /\ fM c = (AG c).c.ms.length /\ (∀ (i : Nat), i < fM c -> (AFQ c i).pl = (gD (AG c).c.ms i).pl /\ (AFQ c i).ht = (gD (AG c).c.ms i).ht) /\ AQJ c = (AG
 c).c.ns.length /\ (∀ (i : Nat), i < AQJ c -> (nL c i).mi = (gD (AG c).c.ns i).mi /\ (AYU c i).lo = Gq c i /\ (AYU c i).hi = Dt c i /\ (ANN c i).lo = Dr c i /\ (ANN c
 i).hi = Ci c i) /\ SC /\ AU = AU /\ (∀ (n : Int), hasN (SQ c) n = hasN (AG c).c.ns n) /\ Dz c /\ (∀ (n : Int), (eK c n).mi = (ntOf (AG c).c.ns n).mi /\ (AJB c n).lo = (ntOf (AG
 c).c.ns n).t.lo /\ (AJB c n).hi = (ntOf (AG c).c.ns n).t.hi /\ (AVP c n).lo = (ntOf (AG c).c.ns n).s.lo /\ (AVP c n).hi = (ntOf (AG c).c.ns n).s.hi) /\ AU = AU /\ (∀ (n : Int), hasN (AG c).c.ns n =
 hasN (Dg c) n) /\ (∀ (n : Int), (AG c).st n = (eO c).st n) /\ (∀ (n : Int), (ntOf (AG c).c.ns n).mi = (pE c n).mi /\ (ntOf (AG c).c.ns n).t.lo = (AKH c n).lo /\ (ntOf (AG c).c.ns n).t.hi =
 (AKH c n).hi /\ (ntOf (AG c).c.ns n).s.lo = (AGQ c n).lo /\ (ntOf (AG c).c.ns n).s.hi = (AGQ c n).hi) /\ (0 : Nat) < (4611686018427387904 : Nat) /\ fM c <= (40 : Nat)) /\ (AUQ c /\ AWJ c
 /\ ATZ c /\ BCS c /\ AIR c /\ OL c = Cv c /\ (∀ (i : Nat), i < OL c -> AOR c i = AKY c i /\ AQH c i = AMW c i) /\ lB c = Dw c /\ (∀ (i : Nat), i <
 lB c -> BEK c i = AXR c i /\ tY c i = vR c i /\ I0 c i = K3 c i /\ xG c i = tH c i /\ sV c i = yQ c i) /\ SC /\ AU = AU /\ (∀ (n : Int),
 Iq c n = hasN (AG c).c.ns n) /\ Dz c /\ (∀ (n : Int), vS c n = (ntOf (AG c).c.ns n).mi /\ K2 c n = (ntOf (AG c).c.ns n).t.lo /\ wW c n = (ntOf (AG c).c.ns n).t.hi /\ wU c
 n = (ntOf (AG c).c.ns n).s.lo /\ F1 c n = (ntOf (AG c).c.ns n).s.hi) /\ AUQ c /\ AWJ c /\ ATZ c /\ BCS c /\ AIR c /\ Cv c = OL c /\ (∀ (i : Nat), i < Cv c ->
 AKY c i = AOR c i /\ AMW c i = AQH c i) /\ Dw c = lB c /\ (∀ (i : Nat), i < Dw c -> AXR c i = BEK c i /\ vR c i = tY c i /\ K3 c i = I0 c
 i /\ tH c i = xG c i /\ yQ c i = sV c i) /\ SC /\ AU = AU /\ (∀ (n : Int), hasN (AG c).c.ns n = Iq c n) /\ Dz c /\ (∀ (n : Int), (ntOf (AG c).c.ns n).mi = vS c
 n /\ (ntOf (AG c).c.ns n).t.lo = K2 c n /\ (ntOf (AG c).c.ns n).t.hi = wW c n /\ (ntOf (AG c).c.ns n).s.lo = wU c n /\ (ntOf (AG c).c.ns n).s.hi = F1 c n) /\ (1 : Nat) <= OL c /\
 OL c <= (40 : Nat) /\ ∀ (j : Int), Iq c j = true -> (0 : Int) <= j /\ j < (↑(OL c) : Int)) /\ bif !(AX (Dk.mk (Cht.mk (kW c) (eJ c) (rC c) (cF c) (gI c) (SB
 c)) (AG c).st (eO c).sp)).snd then UQ c /\ UQ c /\ VT c /\ VT c /\ (K8 c).e = (6 : Int) else UQ c /\ UQ c /\ VT c /\ VT c /\ (K8 c).e = (0 : Int)) := by
 kernel_rfl
def DCL : Ann := ann 101 [(HG, C_openX.spec dC1)]
def CZD (c : Cht) : Prop := AZ Try.prog DCL VC (AN VC) [.d (VZ c)] (AF []) (.tup [.d (CI rM), .d (Ga nilP), .int (AO c)]) [] [] []
theorem DHD (c : Cht) : (CZD c) = ((c.p.lo = c.p.lo /\ c.p.hi = c.p.hi /\ c.base = c.base /\ c.scale = c.scale /\ c.off = c.off /\ (AE c.ms.length λ (i : Nat) => gD c.ms i).length = c.ms.length /\ (∀ (i : Nat), i <
 (AE c.ms.length λ (i : Nat) => gD c.ms i).length -> (gD (AE c.ms.length λ (i : Nat) => gD c.ms i) i).pl = (gD c.ms i).pl /\ (gD (AE c.ms.length λ (i : Nat) => gD c.ms i) i).ht = (gD c.ms i).ht) /\ (AE c.ns.length
 λ (i : Nat) => gD c.ns i).length = c.ns.length /\ (∀ (i : Nat), i < (AE c.ns.length λ (i : Nat) => gD c.ns i).length -> (gD (AE c.ns.length λ (i : Nat) => gD c.ns i) i).mi = (gD c.ns i).mi /\ (gD (AE c.ns.length
 λ (i : Nat) => gD c.ns i) i).t.lo = (gD c.ns i).t.lo /\ (gD (AE c.ns.length λ (i : Nat) => gD c.ns i) i).t.hi = (gD c.ns i).t.hi /\ (gD (AE c.ns.length λ (i : Nat) => gD c.ns i) i).s.lo = (gD c.ns i).s.lo /\ (gD
 (AE c.ns.length λ (i : Nat) => gD c.ns i) i).s.hi = (gD c.ns i).s.hi) /\ ((AE c.ms.length λ (i : Nat) => gD c.ms i).length < 4611686018427387904 /\ (AE c.ns.length λ (i : Nat) => gD c.ns i).length <
 4611686018427387904) /\ AO (Cht.mk c.p c.base c.scale c.off (AE c.ms.length λ (i : Nat) => gD c.ms i) (AE c.ns.length λ (i : Nat) => gD c.ns i)) ≠ 0) /\ bif AO (Cht.mk c.p c.base c.scale c.off (AE
 c.ms.length λ (i : Nat) => gD c.ms i) (AE c.ns.length λ (i : Nat) => gD c.ns i)) != 0 then 0 = 0 /\ 0 = 0 /\ 0 = 0 /\ 0 = 0 /\ AO c = AO (Cht.mk c.p c.base c.scale c.off (AE c.ms.length λ (i : Nat) => gD c.ms
 i) (AE c.ns.length λ (i : Nat) => gD c.ns i)) else False) := by kernel_rfl
theorem DNK (c : Cht) (h1 : c.ms.length < 4611686018427387904 /\ c.ns.length < 4611686018427387904) (h0 : AO c = 0) (hn : c.ns.length = 0) : DDS c := by
 have hl := EW h0
 have hs := rA h0
 rw [DHO]; delta AAJ Wf BOP CBC BYB BWO BRZ AEN Nx BMT nD AJH AXY AHX AFG AOL AJO ARX AIO AYK JS NW jO ATK ANY AQM AQW BAD ND AWZ ARF AYD AQS Dx AFJ fK Gq AMC Dt Dr AZJ Ci SC qU AUX BCX Gb AIF ANI AHZ ALZ AYX AFD Dz kY fM AFQ SQ AQJ nL AYU ANN eK AJB AVP eO OK Dg pE AKH AGQ kW BBE AUQ BDW AWJ eJ ATZ rC BCS cF AIR AGC Cv fS gI OL ARC AOR AKY AQH AMW Dw Et SB lB qV BEK AXR AFV tY J1 vR I0 K3 F8 xG sZ tH sV yQ Iq Mq vS sF K2 wW tQ wU F1 UQ VT; simp only [CC, eq_self, implies_true, forall_const, BO, APC, Bf, CPD, BMO]
 have hq : (Af c).q = [] := by unfold Af; rw [hn]; rfl
 have hr : (Af c).r = [] := by unfold Af; rw [hn]; rfl
 refine ⟨⟨h1, h0⟩, ⟨default, hn⟩, λ _ => ⟨λ h => by omega, λ _ => ⟨⟨default, hn⟩, λ _ => ⟨⟨λ n => rfl, by decide, hl.2.1.2⟩, ⟨hl.2.1.1, hl.2.1.2, hs.1⟩, λ hc => ?_, λ hc => ?_⟩⟩⟩⟩
 ·have hc : (AX (lA ⟨AG c, []⟩)).2 = false := hc
  have hc : (AX (fwW c)).2 = false := by unfold fwW; rw [hq]; exact hc
  unfold K8; rw [hc]; exact ⟨rfl, rfl, rfl, rfl, rfl⟩
 ·have hc : (AX (lA ⟨AG c, []⟩)).2 = true := hc
  have hc : (AX (fwW c)).2 = true := by unfold fwW; rw [hq]; exact hc
  unfold K8; rw [hc]
  exact ⟨by show (Af c).q.length = 0; rw [hq]; rfl, by show (Af c).q.length = 0; rw [hq]; rfl, by show (Af c).r.length = 0; rw [hr]; rfl, by show (Af c).r.length = 0; rw [hr]; rfl, rfl⟩
theorem CYP : AP Try.prog BPM (C_few.spec dC1) := okT C_few (λ (c : Cht) h => by
 obtain ⟨h1, h2⟩ : (c.ms.length < 4611686018427387904 /\ c.ns.length < 4611686018427387904) /\ (AO c = 0 -> c.ns.length <= 12) := h
 by_cases h0 : AO c = 0
 ·have e : C_few.val c = .tup [.d (CI (K8 c).q), .d (Ga (K8 c).r), .int (K8 c).e] := by
   show AVal.tup [.d (CI (CJ c).q), .d (Ga (CJ c).r), .int (CJ c).e] = _
   unfold CJ; rw [h0]; rfl
  rw [e]
  rcases Nat.eq_zero_or_pos c.ns.length with hz | hp
  ·exact TV (A := DBX c) (L := []) (keep := []) (ren := []) (fz := []) AMR (by kernel_rfl) (AD P7 (AD DCP (AD CKZ (AD ACQ AK)))) (DNK c h1 h0 hz)
  ·exact TV (A := DMS c) (L := []) (keep := []) (ren := []) (fz := []) AMR (by kernel_rfl) (AD P7 (AD DFT (AD CVJ (AD CKZ (AD ACQ AK))))) (DSU c h1 h0 ⟨hp, h2 h0⟩)
 ·have h0' : (AO c == 0) = false := by simpa using h0
  have e : C_few.val c = .tup [.d (CI rM), .d (Ga nilP), .int (AO c)] := by
   show AVal.tup [.d (CI (CJ c).q), .d (Ga (CJ c).r), .int (CJ c).e] = _
   unfold CJ; rw [h0']; rfl
  rw [e]
  refine TV (A := DCL) (L := []) (keep := []) (ren := []) (fz := []) AMR (by kernel_rfl) (AD O1 AK) ?_
  show CZD c; rw [DHD]; simp only [CC, eq_self, implies_true, forall_const, BO]
  simp [h1, h0, rM, nilP]) _
def C_Stops : Ctr := { α := Cht, xs := λ c => [.d (VZ c)], val := λ c => .tup [.d (CI (CJ c).q), .int (CJ c).e], keep := λ _ => [], pre := λ c => [(c.ms.length < 4611686018427387904 /\ c.ns.length < 4611686018427387904) /\ (AO c = 0 -> c.ns.length <= 12)] }
def BGO : Ann := ann 15 [(BPM, C_few.spec dC1)]
def CUL (c : Cht) : Prop := AZ Try.prog BGO CJJ (AN CJJ) [.d (VZ c)] (AF []) (C_Stops.val c) [] [] []
theorem DDY (c : Cht) : (CUL c) = ((c.p.lo = c.p.lo /\ c.p.hi = c.p.hi /\ c.base = c.base /\ c.scale = c.scale /\ c.off = c.off /\ (AE c.ms.length λ (i : Nat) => gD c.ms i).length = c.ms.length /\ (∀ (i : Nat), i <
 (AE c.ms.length λ (i : Nat) => gD c.ms i).length -> (gD (AE c.ms.length λ (i : Nat) => gD c.ms i) i).pl = (gD c.ms i).pl /\ (gD (AE c.ms.length λ (i : Nat) => gD c.ms i) i).ht = (gD c.ms i).ht) /\ (AE c.ns.length
 λ (i : Nat) => gD c.ns i).length = c.ns.length /\ (∀ (i : Nat), i < (AE c.ns.length λ (i : Nat) => gD c.ns i).length -> (gD (AE c.ns.length λ (i : Nat) => gD c.ns i) i).mi = (gD c.ns i).mi /\ (gD (AE c.ns.length
 λ (i : Nat) => gD c.ns i) i).t.lo = (gD c.ns i).t.lo /\ (gD (AE c.ns.length λ (i : Nat) => gD c.ns i) i).t.hi = (gD c.ns i).t.hi /\ (gD (AE c.ns.length λ (i : Nat) => gD c.ns i) i).s.lo = (gD c.ns i).s.lo /\ (gD
 (AE c.ns.length λ (i : Nat) => gD c.ns i) i).s.hi = (gD c.ns i).s.hi) /\ ((AE c.ms.length λ (i : Nat) => gD c.ms i).length < 4611686018427387904 /\ (AE c.ns.length λ (i : Nat) => gD c.ns i).length <
 4611686018427387904) /\ (AO (Cht.mk c.p c.base c.scale c.off (AE c.ms.length λ (i : Nat) => gD c.ms i) (AE c.ns.length λ (i : Nat) => gD c.ns i)) = 0 -> (AE c.ns.length λ (i : Nat) => gD c.ns i).length <= 12))
 /\ (CJ c).q.length = (CJ (Cht.mk c.p c.base c.scale c.off (AE c.ms.length λ (i : Nat) => gD c.ms i) (AE c.ns.length λ (i : Nat) => gD c.ns i))).q.length /\ (∀ (i : Nat), i < (CJ c).q.length -> gD (CJ c).q i =
 gD (CJ (Cht.mk c.p c.base c.scale c.off (AE c.ms.length λ (i : Nat) => gD c.ms i) (AE c.ns.length λ (i : Nat) => gD c.ns i))).q i) /\ (CJ c).e = (CJ (Cht.mk c.p c.base c.scale c.off (AE c.ms.length λ (i :
 Nat) => gD c.ms i) (AE c.ns.length λ (i : Nat) => gD c.ns i))).e) := by kernel_rfl
theorem BQK : AP Try.prog BHQ (C_Stops.spec dC1) := MC C_Stops (λ _ => BGO) [] [] DFK (λ _ => by kernel_rfl) (λ _ => AD CYP AK) (λ (c : Cht) h => by
 show CUL c; rw [DDY]; simp only [CC, eq_self, implies_true, forall_const, BO]; exact h) (λ _ => MO rfl rfl) _
def C_Pairs : Ctr := { α := Cht, xs := λ c => [.d (VZ c)], val := λ c => .tup [.d (Ga (CJ c).r), .int (CJ c).e], keep := λ _ => [], pre := λ c => [(c.ms.length < 4611686018427387904 /\ c.ns.length < 4611686018427387904) /\ (AO c = 0 -> c.ns.length <= 12)] }
def CTZ (c : Cht) : Prop := AZ Try.prog BGO CMB (AN CMB) [.d (VZ c)] (AF []) (C_Pairs.val c) [] [] []
theorem DBU (c : Cht) : (CTZ c) = ((c.p.lo = c.p.lo /\ c.p.hi = c.p.hi /\ c.base = c.base /\ c.scale = c.scale /\ c.off = c.off /\ (AE c.ms.length λ (i : Nat) => gD c.ms i).length = c.ms.length /\ (∀ (i : Nat), i <
 (AE c.ms.length λ (i : Nat) => gD c.ms i).length -> (gD (AE c.ms.length λ (i : Nat) => gD c.ms i) i).pl = (gD c.ms i).pl /\ (gD (AE c.ms.length λ (i : Nat) => gD c.ms i) i).ht = (gD c.ms i).ht) /\ (AE c.ns.length
 λ (i : Nat) => gD c.ns i).length = c.ns.length /\ (∀ (i : Nat), i < (AE c.ns.length λ (i : Nat) => gD c.ns i).length -> (gD (AE c.ns.length λ (i : Nat) => gD c.ns i) i).mi = (gD c.ns i).mi /\ (gD (AE c.ns.length
 λ (i : Nat) => gD c.ns i) i).t.lo = (gD c.ns i).t.lo /\ (gD (AE c.ns.length λ (i : Nat) => gD c.ns i) i).t.hi = (gD c.ns i).t.hi /\ (gD (AE c.ns.length λ (i : Nat) => gD c.ns i) i).s.lo = (gD c.ns i).s.lo /\ (gD
 (AE c.ns.length λ (i : Nat) => gD c.ns i) i).s.hi = (gD c.ns i).s.hi) /\ ((AE c.ms.length λ (i : Nat) => gD c.ms i).length < 4611686018427387904 /\ (AE c.ns.length λ (i : Nat) => gD c.ns i).length <
 4611686018427387904) /\ (AO (Cht.mk c.p c.base c.scale c.off (AE c.ms.length λ (i : Nat) => gD c.ms i) (AE c.ns.length λ (i : Nat) => gD c.ns i)) = 0 -> (AE c.ns.length λ (i : Nat) => gD c.ns i).length <= 12))
 /\ (CJ c).r.length = (CJ (Cht.mk c.p c.base c.scale c.off (AE c.ms.length λ (i : Nat) => gD c.ms i) (AE c.ns.length λ (i : Nat) => gD c.ns i))).r.length /\ (∀ (i : Nat), i < (CJ c).r.length -> (gD (CJ c).r
 i).a = (gD (CJ (Cht.mk c.p c.base c.scale c.off (AE c.ms.length λ (i : Nat) => gD c.ms i) (AE c.ns.length λ (i : Nat) => gD c.ns i))).r i).a /\ (gD (CJ c).r i).b = (gD (CJ (Cht.mk c.p c.base c.scale c.off (AE
 c.ms.length λ (i : Nat) => gD c.ms i) (AE c.ns.length λ (i : Nat) => gD c.ns i))).r i).b) /\ (CJ c).e = (CJ (Cht.mk c.p c.base c.scale c.off (AE c.ms.length λ (i : Nat) => gD c.ms i) (AE c.ns.length λ (i :
 Nat) => gD c.ns i))).e) := by kernel_rfl
theorem CYM : AP Try.prog CDM (C_Pairs.spec dC1) := MC C_Pairs (λ _ => BGO) [] [] DFJ (λ _ => by kernel_rfl) (λ _ => AD CYP AK) (λ (c : Cht) h => by
 show CTZ c; rw [DBU]; simp only [CC, eq_self, implies_true, forall_const, BO]; exact h) (λ _ => MO rfl rfl) _
end Go.Bal
