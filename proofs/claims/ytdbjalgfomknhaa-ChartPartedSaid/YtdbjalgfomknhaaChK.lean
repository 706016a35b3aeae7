/- Package chart: the fewest stops. -/
import Derived.Test.YtdbjalgfomknhaaChJ
import Derived.Test.YtdbjalgfomknhaaChS
set_option linter.unusedVariables false
set_option linter.unusedSimpArgs false
namespace Go.Bal
open Go Go.Sym Go.Proofs
def idL (n : Nat) : List Int := AE n λ i => (i : Int)
def BC (c : Cht) : List Int := stM (HQ c) (idL c.ns.length)
structure FwS where
 la : Int
 q : List Int
 r : List Pr
 deriving Inhabited
def miA (c : Cht) (a : Int) : Int := (gD c.ns a.toNat).mi
def fwP (c : Cht) (la b a : Int) : Bool := bif decide (miA c a > la) then PO c ⟨a, b⟩ else false
def fwN (c : Cht) (s : FwS) (b : Int) : Option Int -> FwS
 | none => s
 | some a => ⟨wr (miA c b - 1), s.q ++ [wr (miA c b - 1)], s.r ++ [⟨a, b⟩]⟩
def DA (c : Cht) : Nat -> FwS
 | 0 => ⟨-1, [], []⟩
 | k + 1 => fwN c (DA c k) (gD (BC c) k) (((BC c).take k).find? (fwP c (DA c k).la (gD (BC c) k)))
def fM (c : Cht) : FwS := DA c c.ns.length
def fwW (c : Cht) : Dk := Yk ⟨AH c, (fM c).q⟩
structure FwR where
 q : List Int
 r : List Pr
 e : Int
def nilI : List Int := []
def nilP : List Pr := []
def N9 (c : Cht) : FwR := bif (AU (fwW c)).2 then ⟨(fM c).q, (fM c).r, 0⟩ else ⟨nilI, nilP, 6⟩
def JE (c : Cht) : FwR := bif AK c == 0 then N9 c else ⟨nilI, nilP, AK c⟩
def C_few : Ctr := { α := Cht, xs := λ c => [.d (YE c)], val := λ c => .tup [.d (DK (JE c).q), .d (Cx (JE c).r), .int (JE c).e], keep := λ _ => [], pre := λ c => [(c.ms.length < 4611686018427387904 /\ c.ns.length < 4611686018427387904) /\ (AK c = 0 -> c.ns.length <= 12)] }
def fwH (c : Cht) : List (Nat × HCell) := [(201, .live (chB c)), (203, .live (dkB (AH c) 204)), (204, .live (dkM (AH c)))]
def fw6S (c : Cht) (k : Nat) : List (Nat × AVal) := [(1, .bptr 201 0), (5, .bptr 203 0), (29, .int c.ns.length), (30, .int k)]
def fwR : List (Nat × Nat) := [(201, 1000), (203, 2016), (204, 2017)]
def fw6n (c : Cht) : Shape := { α := One, dflt := default, T := λ _ => ⟨(7, .d GC) :: fw6S c 0, fwH c⟩, inv := λ _ => True, meas := λ _ => 60, first := fwR }
def fw6o (c : Cht) : Shape := { α := Nat, dflt := 0, T := λ k => ⟨(7, .own 202 1 0 k) :: fw6S c k, fwH c ++ [(202, .live (.row 1 k λ i => FV i))]⟩, inv := λ k => 1 <= k /\ k <= c.ns.length, meas := λ k => 50 - k, again := [(202, 9048)] }
def fwB (c : Cht) : List (Nat × AVal) := [(1, .bptr 201 0), (5, .bptr 203 0), (7, .d (DK (BC c)))]
def fw11 (c : Cht) (z : List Nat) : Shape := { α := One, dflt := default, T := λ _ => ⟨fwB c, fwH c⟩, inv := λ _ => True, meas := λ _ => 0, ffz := z }
def fwT (c : Cht) (k : Nat) : List (Nat × AVal) := fwB c ++ [(11, .int (DA c k).la), (41, .d (DK (BC c))), (42, .int c.ns.length), (43, .int k)]
def fwY (c : Cht) (k : Nat) : List (Nat × HCell) := fwH c ++ [(301, .live (.row 1 (DA c k).q.length λ i => FV (gD (DA c k).q i))), (302, .live (.row 2 (DA c k).r.length λ i => ePr (gD (DA c k).r i)))]
def CCW : List (Nat × AVal) := [(9, .d GC), (10, .d GC)]
def CHO (c : Cht) (k : Nat) : List (Nat × AVal) := [(9, .own 301 1 0 (DA c k).q.length), (10, .own 302 2 0 (DA c k).r.length)]
def CYE (c : Cht) : Shape := { α := Nat, dflt := 0, T := λ k => ⟨CCW ++ fwT c k, fwH c⟩, inv := λ k => k <= c.ns.length /\ (DA c k).q = [], meas := λ k => c.ns.length - k, tag := [0] }
def CZE (c : Cht) : Shape := { α := Nat, dflt := 0, T := λ k => ⟨CHO c k ++ fwT c k, fwY c k⟩, inv := λ k => k <= c.ns.length /\ 1 <= (DA c k).q.length, meas := λ k => c.ns.length - k, tag := [1] }
def fwJ (c : Cht) (k j : Nat) : List (Nat × AVal) := [(13, .int (gD (BC c) k)), (50, .d (DK ((BC c).take k))), (51, .int k), (52, .int j)]
def CZD (c : Cht) (m : Nat) : Shape := { α := IJ, dflt := default, T := λ s => ⟨fwJ c s.i s.j ++ (CCW ++ fwT c s.i), fwH c⟩, inv := λ s => (s.i < c.ns.length /\ c.ns.length - s.i = m /\ s.j <= s.i /\ ∀ t, t < s.j -> fwP c (DA c s.i).la (gD (BC c) s.i) (gD (BC c) t) = false) /\ (DA c s.i).q = [], meas := λ s => c.ns.length - s.j }
def DAH (c : Cht) (m : Nat) : Shape := { α := IJ, dflt := default, T := λ s => ⟨fwJ c s.i s.j ++ (CHO c s.i ++ fwT c s.i), fwY c s.i⟩, inv := λ s => (s.i < c.ns.length /\ c.ns.length - s.i = m /\ s.j <= s.i /\ ∀ t, t < s.j -> fwP c (DA c s.i).la (gD (BC c) s.i) (gD (BC c) t) = false) /\ 1 <= (DA c s.i).q.length, meas := λ s => c.ns.length - s.j }
def fwT2 (c : Cht) (k : Nat) : List (Nat × AVal) := fwB c ++ [(11, .int (DA c (k + 1)).la), (41, .d (DK (BC c))), (42, .int c.ns.length), (43, .int k)]
def DBD (c : Cht) (m : Nat) : Shape := { α := Nat, dflt := 0, T := λ k => ⟨CCW ++ fwT2 c k, fwH c⟩, inv := λ k => k < c.ns.length /\ c.ns.length - k = m /\ (DA c (k + 1)).q = [], meas := λ _ => 0 }
def CLF (c : Cht) (m : Nat) (f : List (Nat × Nat)) : Shape := { α := Nat, dflt := 0, T := λ k => ⟨CHO c (k + 1) ++ fwT2 c k, fwY c (k + 1)⟩, inv := λ k => k < c.ns.length /\ c.ns.length - k = m /\ 1 <= (DA c (k + 1)).q.length, meas := λ _ => 0, first := f }
def fw26 (c : Cht) (z : List Nat) : Shape := { α := One, dflt := default, T := λ _ => ⟨[(5, .bptr 203 0), (9, .d (DK (fM c).q)), (10, .d (Cx (fM c).r))], [(203, .live (dkB (AH c) 204)), (204, .live (dkM (AH c)))]⟩, inv := λ _ => True, meas := λ _ => 0, ffz := z }
def fw10 (c : Cht) : Shape := { α := One, dflt := default, T := λ _ => ⟨[(1, .bptr 201 0), (5, .bptr 203 0), (7, .own 202 1 0 c.ns.length)], fwH c ++ [(202, .live (.row 1 c.ns.length λ i => FV i))]⟩, inv := λ _ => 1 <= c.ns.length, meas := λ _ => 0 }
def CTX (c : Cht) : Ann := { ann 101 [(GX, C_open.spec dC1), (vK, C_sort.spec dGLt), (BQV, C_late.spec dDkP), (AYT, C_stop.spec dDkZ), (yK, C_times.spec dDk1)] with mt := λ id => id == 8 || id == 23, loops := λ id => if id = 6 then some [fw6n c, fw6o c] else if id = 15 then some [CYE c, CZE c] else none, inner := λ gs id => if id = 18 then (if gs.getD 1 0 = 0 then some [CZD c (gs.getD 0 0)] else some [DAH c (gs.getD 0 0)]) else none, cut := λ id => if id = 10 then some [fw10 c] else if id = 11 then some [fw11 c [202]] else if id = 26 then some [fw26 c [], fw26 c [301, 302]] else none, cutIn := λ gs id => if id = 25 then (if gs.getD 1 0 = 0 then some [DBD c (gs.getD 0 0), CLF c (gs.getD 0 0) [(301, 24048), (302, 24112)]] else some [CLF c (gs.getD 0 0) [(301, 24048), (302, 24112)], CLF c (gs.getD 0 0) []]) else none }
def CTU (c : Cht) : Prop := BB Try.prog (CTX c) UI (AL UI) [.d (YE c)] (AG []) (.tup [.d (DK (N9 c).q), .d (Cx (N9 c).r), .int (N9 c).e]) [] [] []
abbrev ANI (c : Cht) : List Mk := AE c.ms.length λ (i : Nat) => gD c.ms i
abbrev yC (c : Cht) : Nat := (ANI c).length
abbrev BTD (c : Cht) : Prop := yC c = c.ms.length
abbrev BTI (c : Cht) (i : Nat) : Mk := gD (ANI c) i
abbrev BOR (c : Cht) (i : Nat) : Int := (BTI c i).pl
abbrev BMQ (c : Cht) (i : Nat) : Int := (BTI c i).ht
abbrev BPF (c : Cht) : Prop := ∀ (i : Nat), i < yC c -> BOR c i = (gD c.ms i).pl /\ BMQ c i = (gD c.ms i).ht
abbrev AOT (c : Cht) : List Nt := AE c.ns.length λ (i : Nat) => gD c.ns i
abbrev Xj (c : Cht) : Nat := (AOT c).length
abbrev BSO (c : Cht) : Prop := Xj c = c.ns.length
abbrev vQ (c : Cht) (i : Nat) : Nt := gD (AOT c) i
abbrev BIV (c : Cht) (i : Nat) : Int := (vQ c i).mi
abbrev BHI (c : Cht) (i : Nat) : Span := (vQ c i).t
abbrev AWG (c : Cht) (i : Nat) : Int := (BHI c i).lo
abbrev AYF (c : Cht) (i : Nat) : Int := (BHI c i).hi
abbrev AQL (c : Cht) (i : Nat) : Span := (vQ c i).s
abbrev BBE (c : Cht) (i : Nat) : Int := (AQL c i).lo
abbrev AYA (c : Cht) (i : Nat) : Int := (AQL c i).hi
abbrev ASR (c : Cht) : Prop := ∀ (i : Nat), i < Xj c -> BIV c i = (gD c.ns i).mi /\ AWG c i = (gD c.ns i).t.lo /\ AYF c i = (gD c.ns i).t.hi /\ BBE c i = (gD c.ns i).s.lo /\ AYA c i = (gD
 c.ns i).s.hi
abbrev K5 (c : Cht) : Cht := Cht.mk c.p c.base c.scale c.off (ANI c) (AOT c)
abbrev BG : Prop := (0 : Nat) = (0 : Nat)
abbrev GU : Prop := ∀ (i : Nat), i < (0 : Nat) -> false = false
abbrev FA (c : Cht) : Prop := (↑c.ns.length : Int) = (↑c.ns.length : Int)
abbrev GV (c : Cht) : Prop := c.ms.length = c.ms.length
abbrev GT (c : Cht) : Prop := ∀ (i : Nat), i < c.ms.length -> (gD c.ms i).pl = (gD c.ms i).pl /\ (gD c.ms i).ht = (gD c.ms i).ht
abbrev HA (c : Cht) : Prop := c.ns.length = c.ns.length
abbrev HB (c : Cht) : Prop := ∀ (i : Nat), i < c.ns.length -> (gD c.ns i).mi = (gD c.ns i).mi /\ (gD c.ns i).t.lo = (gD c.ns i).t.lo /\ (gD c.ns i).t.hi = (gD c.ns i).t.hi /\ (gD c.ns i).s.lo = (gD c.ns i).s.lo /\ (gD
 c.ns i).s.hi = (gD c.ns i).s.hi
abbrev AUL (c : Cht) : Dk := AH (K5 c)
abbrev SV (c : Cht) : Cht := (AUL c).c
abbrev BEM (c : Cht) : Span := (SV c).p
abbrev AXY (c : Cht) : List Mk := (SV c).ms
abbrev M2 (i : Nat) (c : Cht) : Prop := i < (AH c).c.ms.length
abbrev ATT (c : Cht) (i : Nat) : Mk := gD (AXY c) i
abbrev Ok (c : Cht) : List Nt := (SV c).ns
abbrev I1 (i : Nat) (c : Cht) : Prop := i < (AH c).c.ns.length
abbrev J4 (c : Cht) (i : Nat) : Nt := gD (Ok c) i
abbrev Bs (c : Cht) (i : Nat) : Int := (gD (AH c).c.ns i).t.lo
abbrev BHU (c : Cht) (i : Nat) : Span := (J4 c i).t
abbrev Di (c : Cht) (i : Nat) : Int := (gD (AH c).c.ns i).t.hi
abbrev Cq (c : Cht) (i : Nat) : Int := (gD (AH c).c.ns i).s.lo
abbrev AWT (c : Cht) (i : Nat) : Span := (J4 c i).s
abbrev Ab (c : Cht) (i : Nat) : Int := (gD (AH c).c.ns i).s.hi
abbrev ER : Prop := ∀ (i : Nat), i < (40 : Nat) -> false = false
abbrev N6 (c : Cht) (n : Int) : Nt := ntOf (Ok c) n
abbrev BDV (c : Cht) (n : Int) : Span := (N6 c n).t
abbrev BCG (c : Cht) (n : Int) : Span := (N6 c n).s
abbrev AWY : Prop := (0 : Nat) < (0 : Nat)
abbrev BEN : Prop := (1 : Nat) <= (1 : Nat)
abbrev Tc : Prop := (0 : Nat) < (1 : Nat)
abbrev A8 : Prop := (1 : Nat) = (1 : Nat)
abbrev M4 : Prop := BEN /\ (Tc -> A8)
abbrev AVX : Prop := true = true -> Tc
abbrev BFI : Prop := (1 : Nat) <= (9223372036854775807 : Nat)
abbrev BFW : Prop := (True /\ (AWY -> (0 : Nat) = (1 : Nat))) /\ M4 /\ AVX /\ BFI /\ (8 : Nat) <= (140737488355328 : Nat)
abbrev FJ (c : Cht) : Prop := (AH c).c.p.lo = (AH c).c.p.lo
abbrev EW (c : Cht) : Prop := (AH c).c.p.hi = (AH c).c.p.hi
abbrev EY (c : Cht) : Prop := (AH c).c.base = (AH c).c.base
abbrev FB (c : Cht) : Prop := (AH c).c.scale = (AH c).c.scale
abbrev FL (c : Cht) : Prop := (AH c).c.off = (AH c).c.off
abbrev HY (c : Cht) : Prop := (AH c).c.ms.length = (AH c).c.ms.length
abbrev IC (c : Cht) : Prop := ∀ (i : Nat), M2 i c -> (gD (AH c).c.ms i).pl = (gD (AH c).c.ms i).pl /\ (gD (AH c).c.ms i).ht = (gD (AH c).c.ms i).ht
abbrev HV (c : Cht) : Prop := (AH c).c.ns.length = (AH c).c.ns.length
abbrev HW (c : Cht) : Prop := ∀ (i : Nat), I1 i c -> (gD (AH c).c.ns i).mi = (gD (AH c).c.ns i).mi /\ Bs c i = Bs c i /\ Di c i = Di c i /\ Cq c i = Cq c i /\ Ab c i =
 Ab c i
abbrev IM (c : Cht) : Prop := ∀ (n : Int), hasN (AH c).c.ns n = hasN (AH c).c.ns n
abbrev EA (c : Cht) : Prop := ∀ (n : Int), (AH c).st n = (AH c).st n
abbrev IL (c : Cht) : Prop := ∀ (n : Int), (ntOf (AH c).c.ns n).mi = (ntOf (AH c).c.ns n).mi /\ (ntOf (AH c).c.ns n).t.lo = (ntOf (AH c).c.ns n).t.lo /\ (ntOf (AH c).c.ns n).t.hi = (ntOf (AH c).c.ns
 n).t.hi /\ (ntOf (AH c).c.ns n).s.lo = (ntOf (AH c).c.ns n).s.lo /\ (ntOf (AH c).c.ns n).s.hi = (ntOf (AH c).c.ns n).s.hi
abbrev xX (a : Nat) (c : Cht) : Prop := (1 : Nat) <= a /\ a <= c.ns.length
abbrev uN (a : Nat) : Nat := (50 : Nat) - a
abbrev E6 (a : Nat) (c : Cht) : Bool := decide ((↑a : Int) < (↑c.ns.length : Int))
abbrev vZ : Prop := false = true -> Tc
abbrev Wg (a : Nat) : Nat := a + (1 : Nat)
abbrev BGT (a : Nat) (a1 : Nat) : Prop := a = Wg a1
abbrev tY (a : Nat) (a1 : Nat) : Prop := (↑a : Int) = IntKind.i64.wrap ((↑a1 : Int) + (1 : Int))
abbrev AZW (c : Cht) : Prop := Nat.le (1 : Nat) c.ns.length
abbrev B6 (c : Cht) : List Int := AE c.ns.length λ (i : Nat) => (↑i : Int)
abbrev Cu (c : Cht) : Nat := (B6 c).length
abbrev ATM (c : Cht) : Prop := Cu c = c.ns.length
abbrev AVT (i : Nat) (c : Cht) : Prop := i < Cu c
abbrev D8 (c : Cht) (i : Nat) : Int := gD (B6 c) i
abbrev G2 (j : Nat) : Nat := (0 : Nat) + j
abbrev I9 (c : Cht) : Prop := FJ c /\ EW c /\ EY c /\ FB c /\ FL c /\ HY c /\ IC c /\ HV c /\ HW c /\ ER /\ AT = AT /\ IM c /\ EA c /\ IL c
abbrev TH (c : Cht) : Prop := c.p.lo = c.p.lo /\ c.p.hi = c.p.hi /\ c.base = c.base /\ c.scale = c.scale /\ c.off = c.off /\ GV c /\ GT c /\ HA c /\ HB c /\ I9 c
abbrev CE (c : Cht) : Prop := (BC c).length = (BC c).length
abbrev CG (c : Cht) : Prop := ∀ (i : Nat), i < (BC c).length -> gD (BC c) i = gD (BC c) i
abbrev H4 (a : Nat) (c : Cht) : Prop := a <= c.ns.length /\ (DA c a).q = []
abbrev ARH (a : Nat) : Prop := (0 : Int) <= (↑a : Int)
abbrev AUU (a : Nat) (c : Cht) : Prop := ARH a /\ (↑a : Int) < (↑(BC c).length : Int)
abbrev AXH (a : Nat) (c : Cht) : Prop := (0 : Int) <= (0 : Int) /\ ARH a /\ (↑a : Int) <= (↑(BC c).length : Int)
abbrev AWX (c : Cht) (a : IJ) (a1 : Nat) : Prop := gD (BC c) a.i = gD (BC c) a1
abbrev BGC (a : Nat) : Nat := a - Int.toNat (0 : Int)
abbrev BAK (a : IJ) (c : Cht) (a1 : Nat) : Prop := (List.take a.i (BC c)).length = BGC a1
abbrev AQS (i : Nat) (a : IJ) (c : Cht) : Prop := i < (List.take a.i (BC c)).length
abbrev I6 (a : IJ) (c : Cht) (i : Nat) : Int := gD (List.take a.i (BC c)) i
abbrev ARJ (a : IJ) (c : Cht) : Prop := ∀ (i : Nat), AQS i a c -> I6 a c i = gD (BC c) (Int.toNat (0 : Int) + i)
abbrev BIF (a : IJ) (a1 : Nat) : Prop := (↑a.i : Int) = (↑(BGC a1) : Int)
abbrev BAI (a : IJ) : Prop := (↑a.j : Int) = (0 : Int)
abbrev AZQ (c : Cht) (a : IJ) (a1 : Nat) : Prop := (DA c a.i).la = (DA c a1).la
abbrev BDF (a : IJ) (a1 : Nat) : Prop := (↑a.i : Int) = (↑a1 : Int)
abbrev At (c : Cht) (a : Nat) : Nat := c.ns.length - a
abbrev AWV (a : IJ) (c : Cht) (a1 : Nat) : Prop := a.i < c.ns.length /\ c.ns.length - a.i = At c a1 /\ a.j <= a.i /\ ∀ (t : Nat), t < a.j -> fwP c (DA c a.i).la (gD (BC c) a.i) (gD (BC c) t) = false
abbrev Yu (a : IJ) (c : Cht) (a1 : Nat) : Prop := AWV a c a1 /\ (DA c a.i).q = []
abbrev AIH (a : IJ) : Bool := decide ((↑a.j : Int) < (↑a.i : Int))
abbrev AAV (a : IJ) (c : Cht) : Prop := (0 : Int) <= (↑a.j : Int) /\ (↑a.j : Int) < (↑(List.take a.i (BC c)).length : Int)
abbrev KM (a : IJ) (c : Cht) : Int := gD (List.take a.i (BC c)) a.j
abbrev AKY (c : Cht) (a : IJ) : Bool := decide ((gD c.ns (KM a c).toNat).mi > (DA c a.i).la)
abbrev Zn (a : IJ) (c : Cht) : Pr := dPr (DVal.agg [FV (KM a c), DVal.v (Value.int IntKind.i64 (gD (BC c) a.i))])
abbrev eT (a : IJ) (c : Cht) : Int := (Zn a c).a
abbrev bZ (a : IJ) (c : Cht) : Int := (Zn a c).b
abbrev dA (c : Cht) : List Mk := AE (AH c).c.ms.length λ (i : Nat) => gD (AH c).c.ms i
abbrev QE (c : Cht) : Nat := (dA c).length
abbrev ALH (c : Cht) : Prop := QE c = (AH c).c.ms.length
abbrev Y0 (c : Cht) (i : Nat) : Mk := gD (dA c) i
abbrev AKF (c : Cht) (i : Nat) : Int := (Y0 c i).pl
abbrev AJT (c : Cht) (i : Nat) : Int := (Y0 c i).ht
abbrev Y9 (c : Cht) : Prop := ∀ (i : Nat), i < QE c -> AKF c i = (gD (AH c).c.ms i).pl /\ AJT c i = (gD (AH c).c.ms i).ht
abbrev QD (c : Cht) : List Nt := AE (AH c).c.ns.length λ (i : Nat) => gD (AH c).c.ns i
abbrev MK (c : Cht) : Nat := (QD c).length
abbrev ACU (c : Cht) : Prop := MK c = (AH c).c.ns.length
abbrev Q2 (i : Nat) (c : Cht) : Prop := i < MK c
abbrev Yb (c : Cht) (i : Nat) : Nt := gD (QD c) i
abbrev Av (c : Cht) (i : Nat) : Int := (Yb c i).mi
abbrev AJA (c : Cht) (i : Nat) : Span := (Yb c i).t
abbrev AKD (c : Cht) (i : Nat) : Int := (AJA c i).lo
abbrev V5 (c : Cht) (i : Nat) : Int := (AJA c i).hi
abbrev AGY (c : Cht) (i : Nat) : Span := (Yb c i).s
abbrev ABM (c : Cht) (i : Nat) : Int := (AGY c i).lo
abbrev AJV (c : Cht) (i : Nat) : Int := (AGY c i).hi
abbrev ABN (c : Cht) : Prop := ∀ (i : Nat), Q2 i c -> Av c i = (gD (AH c).c.ns i).mi /\ AKD c i = Bs c i /\ V5 c i = Di c i /\ ABM c i = Cq c i /\ AJV c i =
 Ab c i
abbrev V3 (c : Cht) (n : Int) : Bool := hasN (QD c) n
abbrev S9 (c : Cht) : Prop := ∀ (n : Int), V3 c n = hasN (AH c).c.ns n
abbrev aG (c : Cht) (n : Int) : Nt := ntOf (QD c) n
abbrev ABG (c : Cht) (n : Int) : Int := (aG c n).mi
abbrev AIO (c : Cht) (n : Int) : Span := (aG c n).t
abbrev AIJ (c : Cht) (n : Int) : Int := (AIO c n).lo
abbrev U2 (c : Cht) (n : Int) : Int := (AIO c n).hi
abbrev ACV (c : Cht) (n : Int) : Span := (aG c n).s
abbrev AJJ (c : Cht) (n : Int) : Int := (ACV c n).lo
abbrev ALF (c : Cht) (n : Int) : Int := (ACV c n).hi
abbrev AHD (c : Cht) : Prop := ∀ (n : Int), ABG c n = (ntOf (AH c).c.ns n).mi /\ AIJ c n = (ntOf (AH c).c.ns n).t.lo /\ U2 c n = (ntOf (AH c).c.ns n).t.hi /\ AJJ c n = (ntOf (AH
 c).c.ns n).s.lo /\ ALF c n = (ntOf (AH c).c.ns n).s.hi
abbrev X0 (c : Cht) : Prop := QE c <= (40 : Nat)
abbrev AKG (a : IJ) (c : Cht) : Prop := ((0 : Int) <= KM a c /\ KM a c < (↑c.ns.length : Int)) /\ (AKY c a = true -> eT a c = KM a c /\ bZ a c = gD (BC c) a.i /\ FJ c /\
 EW c /\ EY c /\ FB c /\ FL c /\ ALH c /\ Y9 c /\ ACU c /\ ABN c /\ ER /\ AT = AT /\ S9 c /\ EA c /\ AHD c /\ FJ c /\ EW c /\ EY c /\ FB
 c /\ FL c /\ (AH c).c.ms.length = QE c /\ (∀ (i : Nat), M2 i c -> (gD (AH c).c.ms i).pl = AKF c i /\ (gD (AH c).c.ms i).ht = AJT c i) /\ (AH c).c.ns.length = MK c /\ (∀ (i : Nat),
 I1 i c -> (gD (AH c).c.ns i).mi = Av c i /\ Bs c i = AKD c i /\ Di c i = V5 c i /\ Cq c i = ABM c i /\ Ab c i = AJV c i) /\ ER /\ AT = AT /\ (∀ (n : Int),
 hasN (AH c).c.ns n = V3 c n) /\ EA c /\ (∀ (n : Int), (ntOf (AH c).c.ns n).mi = ABG c n /\ (ntOf (AH c).c.ns n).t.lo = AIJ c n /\ (ntOf (AH c).c.ns n).t.hi = U2 c n /\ (ntOf (AH
 c).c.ns n).s.lo = AJJ c n /\ (ntOf (AH c).c.ns n).s.hi = ALF c n) /\ (((0 : Int) <= eT a c /\ eT a c < (↑(MK c) : Int)) /\ (0 : Int) <= bZ a c /\ bZ a c < (↑(MK c) : Int))
 /\ (X0 c /\ MK c <= (20 : Nat)) /\ ∀ (i : Nat), Q2 i c -> (0 : Int) <= Av c i /\ Av c i < (↑(QE c) : Int))
abbrev ACP (c : Cht) : Cht := Cht.mk (AH c).c.p (AH c).c.base (AH c).c.scale (AH c).c.off (dA c) (QD c)
abbrev AJF (c : Cht) (a : IJ) : Bool := bif AKY c a then PO (ACP c) (Zn a c) else false
abbrev AIB (c : Cht) (a : IJ) : Prop := (0 : Int) <= gD (BC c) a.i /\ gD (BC c) a.i < (↑c.ns.length : Int)
abbrev X1 : Prop := (2 : Nat) = (2 : Nat)
abbrev AIL : Prop := BEN /\ (Tc -> X1)
abbrev Zz (c : Cht) (a : Nat) : FwS := DA c (Wg a)
abbrev Xi (c : Cht) (a : Nat) : List Int := (Zz c a).q
abbrev NA (c : Cht) (a : Nat) : Nat := (Xi c a).length
abbrev ACQ (c : Cht) (a : Nat) : Prop := NA c a = (1 : Nat)
abbrev S1 (c : Cht) (a : Nat) : List Pr := (Zz c a).r
abbrev QW (c : Cht) (a : Nat) : Nat := (S1 c a).length
abbrev AEH (c : Cht) (a : Nat) : Prop := QW c a = (1 : Nat)
abbrev Xu (c : Cht) (a : Nat) : Int := (Zz c a).la
abbrev cU (c : Cht) (a : IJ) : Int := IntKind.i64.wrap ((gD c.ns (gD (BC c) a.i).toNat).mi - (1 : Int))
abbrev R8 (c : Cht) (a : Nat) (a1 : IJ) : Prop := Xu c a = cU c a1
abbrev Ci (a : Nat) (a1 : IJ) : Prop := (↑a : Int) = (↑a1.i : Int)
abbrev eW (i : Nat) (c : Cht) (a : Nat) : Prop := i < NA c a
abbrev Cd (c : Cht) (a : Nat) (i : Nat) : Int := gD (Xi c a) i
abbrev cI (i : Nat) (c : Cht) (a : Nat) : Prop := i < QW c a
abbrev Y5 (c : Cht) (a : Nat) (i : Nat) : Pr := gD (S1 c a) i
abbrev Aw (c : Cht) (a : Nat) (i : Nat) : Int := (Y5 c a i).a
abbrev ZY (c : Cht) (a : Nat) (i : Nat) : Int := (Y5 c a i).b
abbrev AHV (c : Cht) (a : Nat) (a1 : Nat) : Prop := At c a = At c a1
abbrev Bd (a : Nat) (c : Cht) (a1 : Nat) : Prop := a < c.ns.length /\ AHV c a a1 /\ (1 : Nat) <= NA c a
abbrev U9 (c : Cht) (a : IJ) (a1 : IJ) : Prop := gD (BC c) a.i = gD (BC c) a1.i
abbrev ACZ (a : IJ) (c : Cht) (a1 : IJ) : Prop := (List.take a.i (BC c)).length = (List.take a1.i (BC c)).length
abbrev AAQ (a : IJ) (c : Cht) (a1 : IJ) : Prop := ∀ (i : Nat), AQS i a c -> I6 a c i = I6 a1 c i
abbrev Al (a : IJ) (a1 : IJ) : Prop := (↑a.i : Int) = (↑a1.i : Int)
abbrev AKU (a : IJ) (a1 : IJ) : Prop := (↑a.j : Int) = IntKind.i64.wrap ((↑a1.j : Int) + (1 : Int))
abbrev R4 (c : Cht) (a : IJ) (a1 : IJ) : Prop := (DA c a.i).la = (DA c a1.i).la
abbrev ALI (c : Cht) (a : IJ) : Nat := c.ns.length - a.j
abbrev AJQ (c : Cht) (a : IJ) (a1 : IJ) : Prop := ALI c a < ALI c a1
abbrev ADB (c : Cht) (a : Nat) (a1 : IJ) : Prop := Xu c a = (DA c a1.i).la
abbrev AJD (a : Nat) (c : Cht) (a1 : Nat) : Prop := a < c.ns.length /\ AHV c a a1 /\ Xi c a = []
abbrev AFW (c : Cht) (a : Nat) (a1 : Nat) : Prop := (DA c a).la = Xu c a1
abbrev AGN (c : Cht) (a : Nat) (a1 : Nat) : Prop := At c a < At c a1
abbrev AFY (c : Cht) (a : Nat) (a1 : Nat) : Prop := (DA c a).q.length = NA c a1
abbrev T2 (c : Cht) (a : Nat) (a1 : Nat) : Prop := (DA c a).r.length = QW c a1
abbrev Q0 (a : Nat) (c : Cht) : Prop := a <= c.ns.length /\ (1 : Nat) <= (DA c a).q.length
abbrev bG (c : Cht) (a : Nat) : Prop := ∀ (a_1 : Nat), Bd a_1 c a -> ∃ (a_3 : Nat), (BG /\ AFY c a_3 a_1 /\ BG /\ T2 c a_3 a_1 /\ CE c /\ CG c /\ AFW c a_3 a_1 /\ CE
 c /\ CG c /\ FA c /\ tY a_3 a_1 /\ c.p.lo = c.p.lo /\ c.p.hi = c.p.hi /\ c.base = c.base /\ c.scale = c.scale /\ c.off = c.off /\ GV c /\ GT c /\ HA c /\ HB c /\ FJ c /\ EW c /\
 EY c /\ FB c /\ FL c /\ HY c /\ IC c /\ HV c /\ HW c /\ ER /\ AT = AT /\ IM c /\ EA c /\ IL c /\ AFY c a_3 a_1 /\ (∀ (i : Nat), i < (DA c a_3).q.length -> gD
 (DA c a_3).q i = Cd c a_1 i) /\ T2 c a_3 a_1 /\ ∀ (i : Nat), i < (DA c a_3).r.length -> (gD (DA c a_3).r i).a = Aw c a_1 i /\ (gD (DA c a_3).r i).b = ZY c a_1 i) /\ Q0 a_3 c /\ AGN
 c a_3 a
abbrev AAZ (c : Cht) : Prop := (fM c).q.length = (0 : Nat)
abbrev ACA (c : Cht) : Prop := (fM c).r.length = (0 : Nat)
abbrev X3 (c : Cht) (a : IJ) (a1 : Nat) : Prop := (DA c a.i).q.length = (DA c a1).q.length
abbrev ALC (c : Cht) (a : IJ) (a1 : Nat) : Prop := (DA c a.i).r.length = (DA c a1).r.length
abbrev cC (i : Nat) (c : Cht) (a : IJ) : Prop := i < (DA c a.i).q.length
abbrev eO (i : Nat) (c : Cht) (a : IJ) : Prop := i < (DA c a.i).r.length
abbrev RT (c : Cht) (a : IJ) (i : Nat) : Int := (gD (DA c a.i).r i).a
abbrev RH (c : Cht) (a : IJ) (i : Nat) : Int := (gD (DA c a.i).r i).b
abbrev fD (a : IJ) (c : Cht) (a1 : Nat) : Prop := AWV a c a1 /\ (1 : Nat) <= (DA c a.i).q.length
abbrev dH (c : Cht) (a : IJ) : Nat := (DA c a.i).q.length + (1 : Nat)
abbrev eZ (c : Cht) (a : IJ) : Nat := (DA c a.i).r.length + (1 : Nat)
abbrev ACL (c : Cht) (a : Nat) (a1 : IJ) : Prop := NA c a = dH c a1
abbrev AAG (c : Cht) (a : Nat) (a1 : IJ) : Prop := QW c a = eZ c a1
abbrev W0 (i : Nat) (c : Cht) (a : IJ) : Bool := decide (eO i c a)
abbrev AGW (c : Cht) (a : IJ) (a1 : IJ) : Prop := (DA c a.i).q.length = (DA c a1.i).q.length
abbrev AAT (c : Cht) (a : IJ) (a1 : IJ) : Prop := (DA c a.i).r.length = (DA c a1.i).r.length
abbrev U7 (c : Cht) (a : Nat) (a1 : IJ) : Prop := NA c a = (DA c a1.i).q.length
abbrev P8 (c : Cht) (a : Nat) (a1 : IJ) : Prop := QW c a = (DA c a1.i).r.length
abbrev AFC (c : Cht) (a : Nat) (j : Nat) : Pr := gD (DA c a).r (G2 j)
abbrev aU (c : Cht) : List Int := AE (fM c).q.length λ (i : Nat) => gD (fM c).q i
abbrev Yl (c : Cht) : Nat := (aU c).length
abbrev ZD (c : Cht) : Dk := Yk (DkZ.mk (Dk.mk (ACP c) (AH c).st (AH c).sp) (aU c))
abbrev LU (c : Cht) : Cht := (ZD c).c
abbrev Ce (c : Cht) : List Nt := (LU c).ns
abbrev bJ (c : Cht) (n : Int) : Nt := ntOf (Ce c) n
abbrev W9 (c : Cht) (n : Int) : Span := (bJ c n).t
abbrev R9 (c : Cht) (n : Int) : Span := (bJ c n).s
abbrev Yi (c : Cht) : Span := (LU c).p
abbrev AKW (c : Cht) : Int := (Yi c).lo
abbrev AKI (c : Cht) : Prop := AKW c = AKW c
abbrev AKK (c : Cht) : Int := (Yi c).hi
abbrev AAE (c : Cht) : Prop := AKK c = AKK c
abbrev aD (c : Cht) : Int := (LU c).base
abbrev U1 (c : Cht) : Prop := aD c = aD c
abbrev bH (c : Cht) : Int := (LU c).scale
abbrev ACS (c : Cht) : Prop := bH c = bH c
abbrev Ya (c : Cht) : Int := (LU c).off
abbrev AHS (c : Cht) : Prop := Ya c = Ya c
abbrev AFN (c : Cht) : List Mk := (LU c).ms
abbrev Df (c : Cht) : Nat := (AFN c).length
abbrev Zs (c : Cht) (i : Nat) : Mk := gD (AFN c) i
abbrev dG (c : Cht) : List Mk := AE (Df c) λ (i : Nat) => Zs c i
abbrev MZ (c : Cht) : Nat := (dG c).length
abbrev P2 (c : Cht) (i : Nat) : Mk := gD (dG c) i
abbrev S0 (c : Cht) (i : Nat) : Int := (P2 c i).pl
abbrev ABZ (c : Cht) (i : Nat) : Int := (Zs c i).pl
abbrev AGZ (c : Cht) (i : Nat) : Int := (P2 c i).ht
abbrev ACX (c : Cht) (i : Nat) : Int := (Zs c i).ht
abbrev Ba (c : Cht) : Nat := (Ce c).length
abbrev Bk (c : Cht) (i : Nat) : Nt := gD (Ce c) i
abbrev RJ (c : Cht) : List Nt := AE (Ba c) λ (i : Nat) => Bk c i
abbrev fE (c : Cht) : Nat := (RJ c).length
abbrev bY (c : Cht) (i : Nat) : Nt := gD (RJ c) i
abbrev AIQ (c : Cht) (i : Nat) : Int := (bY c i).mi
abbrev AII (c : Cht) (i : Nat) : Int := (Bk c i).mi
abbrev AIU (c : Cht) (i : Nat) : Span := (bY c i).t
abbrev AKB (c : Cht) (i : Nat) : Int := (AIU c i).lo
abbrev AKL (c : Cht) (i : Nat) : Span := (Bk c i).t
abbrev ADJ (c : Cht) (i : Nat) : Int := (AKL c i).lo
abbrev AGD (c : Cht) (i : Nat) : Int := (AIU c i).hi
abbrev AIN (c : Cht) (i : Nat) : Int := (AKL c i).hi
abbrev AHJ (c : Cht) (i : Nat) : Span := (bY c i).s
abbrev AKA (c : Cht) (i : Nat) : Int := (AHJ c i).lo
abbrev AEP (c : Cht) (i : Nat) : Span := (Bk c i).s
abbrev AFE (c : Cht) (i : Nat) : Int := (AEP c i).lo
abbrev AFH (c : Cht) (i : Nat) : Int := (AHJ c i).hi
abbrev Z2 (c : Cht) (i : Nat) : Int := (AEP c i).hi
abbrev ADZ (c : Cht) (i : Nat) : Bool := (ZD c).sp i
abbrev P5 (c : Cht) : Prop := ∀ (i : Nat), i < (40 : Nat) -> ADZ c i = ADZ c i
abbrev Xs (c : Cht) (n : Int) : Bool := hasN (RJ c) n
abbrev aF (c : Cht) (n : Int) : Nt := ntOf (RJ c) n
abbrev ABO (c : Cht) (n : Int) : Int := (aF c n).mi
abbrev W8 (c : Cht) (n : Int) : Span := (aF c n).t
abbrev ABS (c : Cht) (n : Int) : Int := (W8 c n).lo
abbrev AKC (c : Cht) (n : Int) : Int := (W8 c n).hi
abbrev Z5 (c : Cht) (n : Int) : Span := (aF c n).s
abbrev ABL (c : Cht) (n : Int) : Int := (Z5 c n).lo
abbrev AJE (c : Cht) (n : Int) : Int := (Z5 c n).hi
abbrev AED (c : Cht) : Prop := (N9 c).q.length = (0 : Nat)
abbrev AIC (c : Cht) : Prop := (N9 c).r.length = (0 : Nat)
abbrev AGR (c : Cht) : Prop := ∀ (a : One), True -> (Yl c = (fM c).q.length /\ (∀ (i : Nat), i < Yl c -> gD (aU c) i = gD (fM c).q i) /\ FJ c /\ EW c /\ EY c /\ FB c /\
 FL c /\ ALH c /\ Y9 c /\ ACU c /\ ABN c /\ ER /\ AT = AT /\ S9 c /\ EA c /\ AHD c /\ AT = AT /\ (∀ (n : Int), hasN (AH c).c.ns n = hasN (Ce c) n) /\ (∀ (n : Int),
 (AH c).st n = (ZD c).st n) /\ (∀ (n : Int), (ntOf (AH c).c.ns n).mi = (bJ c n).mi /\ (ntOf (AH c).c.ns n).t.lo = (W9 c n).lo /\ (ntOf (AH c).c.ns n).t.hi = (W9 c n).hi /\ (ntOf (AH
 c).c.ns n).s.lo = (R9 c n).lo /\ (ntOf (AH c).c.ns n).s.hi = (R9 c n).hi) /\ Yl c < (4611686018427387904 : Nat) /\ X0 c) /\ (AKI c /\ AAE c /\ U1 c /\ ACS c /\ AHS c /\
 MZ c = Df c /\ (∀ (i : Nat), i < MZ c -> S0 c i = ABZ c i /\ AGZ c i = ACX c i) /\ fE c = Ba c /\ (∀ (i : Nat), i < fE c -> AIQ c i = AII c i /\
 AKB c i = ADJ c i /\ AGD c i = AIN c i /\ AKA c i = AFE c i /\ AFH c i = Z2 c i) /\ P5 c /\ AT = AT /\ (∀ (n : Int), Xs c n = hasN (AH c).c.ns n) /\ EA c
 /\ (∀ (n : Int), ABO c n = (ntOf (AH c).c.ns n).mi /\ ABS c n = (ntOf (AH c).c.ns n).t.lo /\ AKC c n = (ntOf (AH c).c.ns n).t.hi /\ ABL c n = (ntOf (AH c).c.ns n).s.lo /\ AJE c n = (ntOf
 (AH c).c.ns n).s.hi) /\ AKI c /\ AAE c /\ U1 c /\ ACS c /\ AHS c /\ Df c = MZ c /\ (∀ (i : Nat), i < Df c -> ABZ c i = S0 c i /\ ACX c i = AGZ c i) /\
 Ba c = fE c /\ (∀ (i : Nat), i < Ba c -> AII c i = AIQ c i /\ ADJ c i = AKB c i /\ AIN c i = AGD c i /\ AFE c i = AKA c i /\ Z2 c i = AFH c i) /\
 P5 c /\ AT = AT /\ (∀ (n : Int), hasN (AH c).c.ns n = Xs c n) /\ EA c /\ (∀ (n : Int), (ntOf (AH c).c.ns n).mi = ABO c n /\ (ntOf (AH c).c.ns n).t.lo = ABS c n /\ (ntOf (AH c).c.ns
 n).t.hi = AKC c n /\ (ntOf (AH c).c.ns n).s.lo = ABL c n /\ (ntOf (AH c).c.ns n).s.hi = AJE c n) /\ (1 : Nat) <= MZ c /\ MZ c <= (40 : Nat) /\ ∀ (j : Int), Xs c j = true -> (0 : Int) <=
 j /\ j < (↑(MZ c) : Int)) /\ bif !(AU (Dk.mk (Cht.mk (Yi c) (aD c) (bH c) (Ya c) (dG c) (RJ c)) (AH c).st (ZD c).sp)).snd then AED c /\ AED c /\
 AIC c /\ AIC c /\ (N9 c).e = (6 : Int) else (N9 c).q.length = (fM c).q.length /\ (∀ (i : Nat), i < (N9 c).q.length -> gD (N9 c).q i = gD (fM c).q i) /\ (N9 c).r.length = (fM c).r.length /\ (∀ (i : Nat), i <
 (N9 c).r.length -> (gD (N9 c).r i).a = (gD (fM c).r i).a /\ (gD (N9 c).r i).b = (gD (fM c).r i).b) /\ (N9 c).e = (0 : Int)
theorem CXA (c : Cht) : (CTU c) = ((c.p.lo = c.p.lo /\ c.p.hi = c.p.hi /\ c.base = c.base /\ c.scale = c.scale /\ c.off = c.off /\ BTD c /\ BPF c /\ BSO c /\ ASR c /\ (yC c < (4611686018427387904 : Nat)
 /\ Xj c < (4611686018427387904 : Nat)) /\ AK (K5 c) = (0 : Int)) /\ ((∃ (a : One), (BG /\ GU /\ FA c /\ Int.ofNat (0 : Nat) = Int.ofNat (0 : Nat) /\ c.p.lo = c.p.lo /\ c.p.hi = c.p.hi /\ c.base =
 c.base /\ c.scale = c.scale /\ c.off = c.off /\ GV c /\ GT c /\ HA c /\ HB c /\ (AH c).c.p.lo = (BEM c).lo /\ (AH c).c.p.hi = (BEM c).hi /\ (AH c).c.base = (SV c).base /\ (AH
 c).c.scale = (SV c).scale /\ (AH c).c.off = (SV c).off /\ (AH c).c.ms.length = (AXY c).length /\ (∀ (i : Nat), M2 i c -> (gD (AH c).c.ms i).pl = (ATT c i).pl /\ (gD (AH c).c.ms i).ht =
 (ATT c i).ht) /\ (AH c).c.ns.length = (Ok c).length /\ (∀ (i : Nat), I1 i c -> (gD (AH c).c.ns i).mi = (J4 c i).mi /\ Bs c i = (BHU c i).lo /\ Di c i = (BHU c i).hi /\ Cq
 c i = (AWT c i).lo /\ Ab c i = (AWT c i).hi) /\ ER /\ AT = AT /\ (∀ (n : Int), hasN (AH c).c.ns n = hasN (Ok c) n) /\ (∀ (n : Int), (AH c).st n = (AUL c).st n) /\ ∀ (n : Int), (ntOf (AH
 c).c.ns n).mi = (N6 c n).mi /\ (ntOf (AH c).c.ns n).t.lo = (BDV c n).lo /\ (ntOf (AH c).c.ns n).t.hi = (BDV c n).hi /\ (ntOf (AH c).c.ns n).s.lo = (BCG c n).lo /\ (ntOf (AH c).c.ns n).s.hi =
 (BCG c n).hi) /\ True) /\ (∀ (a : One), True -> bif decide ((↑(0 : Nat) : Int) < (↑c.ns.length : Int)) then BFW /\ ∃ (a : Nat), (BG /\ a = (1 : Nat) /\ FA c /\ (↑a : Int) = IntKind.i64.wrap ((↑(0 : Nat) :
 Int) + (1 : Int)) /\ c.p.lo = c.p.lo /\ c.p.hi = c.p.hi /\ c.base = c.base /\ c.scale = c.scale /\ c.off = c.off /\ GV c /\ GT c /\ HA c /\ HB c /\ FJ c /\ EW c /\ EY c /\ FB c /\
 FL c /\ HY c /\ IC c /\ HV c /\ HW c /\ ER /\ AT = AT /\ IM c /\ EA c /\ IL c /\ a = (1 : Nat) /\ ∀ (i : Nat), i < a -> (↑i : Int) = (↑(0 : Nat) : Int)) /\ xX a c /\
 uN a < (60 : Nat) else False) /\ ∀ (a : Nat), xX a c -> bif E6 a c then ((a = a /\ ((0 : Nat) < a -> A8)) /\ M4 /\ vZ /\ Wg a <= (9223372036854775807 : Nat) /\ Wg a * (8 : Nat) <=
 (140737488355328 : Nat)) /\ ∃ (a_2 : Nat), (BG /\ BGT a_2 a /\ FA c /\ tY a_2 a /\ c.p.lo = c.p.lo /\ c.p.hi = c.p.hi /\ c.base = c.base /\ c.scale = c.scale /\ c.off = c.off /\ GV c /\ GT c /\
 HA c /\ HB c /\ FJ c /\ EW c /\ EY c /\ FB c /\ FL c /\ HY c /\ IC c /\ HV c /\ HW c /\ ER /\ AT = AT /\ IM c /\ EA c /\ IL c /\ BGT a_2 a
 /\ ∀ (i : Nat), i < a_2 -> (↑i : Int) = bif decide (i < a) then (↑i : Int) else (↑a : Int)) /\ xX a_2 c /\ uN a_2 < uN a else ∃ (a_2 : One), (BG /\ c.ns.length = a /\ c.p.lo = c.p.lo /\ c.p.hi = c.p.hi /\
 c.base = c.base /\ c.scale = c.scale /\ c.off = c.off /\ GV c /\ GT c /\ HA c /\ HB c /\ FJ c /\ EW c /\ EY c /\ FB c /\ FL c /\ HY c /\ IC c /\ HV c /\ HW c
 /\ ER /\ AT = AT /\ IM c /\ EA c /\ IL c /\ c.ns.length = a /\ ∀ (i : Nat), i < c.ns.length -> (↑i : Int) = (↑i : Int)) /\ AZW c) /\ ∀ (a : One), AZW c -> ((BG /\ ATM c /\ ATM c /\
 (∀ (i : Nat), AVT i c -> D8 c i = (↑i : Int)) /\ c.p.lo = c.p.lo /\ c.p.hi = c.p.hi /\ c.base = c.base /\ c.scale = c.scale /\ c.off = c.off /\ BTD c /\ BPF c /\ BSO c /\ ASR c /\ c.p.lo = c.p.lo /\
 c.p.hi = c.p.hi /\ c.base = c.base /\ c.scale = c.scale /\ c.off = c.off /\ c.ms.length = yC c /\ (∀ (i : Nat), i < c.ms.length -> (gD c.ms i).pl = BOR c i /\ (gD c.ms i).ht = BMQ c i) /\ c.ns.length = Xj c /\
 (∀ (i : Nat), i < c.ns.length -> (gD c.ns i).mi = BIV c i /\ (gD c.ns i).t.lo = AWG c i /\ (gD c.ns i).t.hi = AYF c i /\ (gD c.ns i).s.lo = BBE c i /\ (gD c.ns i).s.hi = AYA c i) /\ Cu c <= (12 :
 Nat) /\ Cu c < (1073741824 : Nat) /\ ∀ (i : Nat), AVT i c -> (0 : Int) <= D8 c i /\ D8 c i < (↑(Xj c) : Int)) /\ ∃ (a : One), ((BC c).length = c.ns.length /\ (0 : Nat) + c.ns.length <= Cu c /\
 (∀ (j : Nat), j < (BC c).length -> gD (BC c) j = gD (stM (HQ (K5 c)) (B6 c)) (G2 j)) /\ TH c) /\ True) /\ ∀ (a : One), True -> ((∃ (a : Nat), (BG /\ GU /\ BG /\ GU /\ CE
 c /\ CG c /\ (DA c a).la = (-1 : Int) /\ CE c /\ CG c /\ (↑c.ns.length : Int) = (↑(BC c).length : Int) /\ (↑a : Int) = (0 : Int) /\ TH c) /\ H4 a c) /\ (∀ (a : Nat), H4 a c -> bif E6 a
 c then (AUU a c /\ AXH a c /\ (∃ (a_2 : IJ), (AWX c a_2 a /\ BAK a_2 c a /\ ARJ a_2 c /\ BIF a_2 a /\ BAI a_2 /\ BG /\ GU /\ BG /\ GU /\ CE c /\ CG c /\ AZQ
 c a_2 a /\ CE c /\ CG c /\ FA c /\ BDF a_2 a /\ TH c) /\ Yu a_2 c a) /\ ∀ (a_2 : IJ), Yu a_2 c a -> bif AIH a_2 then AAV a_2 c /\ AKG a_2 c /\ bif AJF c a_2 then
 AIB c a_2 /\ (BFW /\ (True /\ (AWY -> (0 : Nat) = (2 : Nat))) /\ AIL /\ AVX /\ BFI /\ (16 : Nat) <= (140737488355328 : Nat)) /\ ∃ (a_4 : Nat), (BG /\ ACQ c a_4 /\ BG /\ AEH c
 a_4 /\ CE c /\ CG c /\ R8 c a_4 a_2 /\ CE c /\ CG c /\ FA c /\ Ci a_4 a_2 /\ c.p.lo = c.p.lo /\ c.p.hi = c.p.hi /\ c.base = c.base /\ c.scale = c.scale /\ c.off = c.off /\ GV c /\
 GT c /\ HA c /\ HB c /\ FJ c /\ EW c /\ EY c /\ FB c /\ FL c /\ HY c /\ IC c /\ HV c /\ HW c /\ ER /\ AT = AT /\ IM c /\ EA c /\ IL c /\
 ACQ c a_4 /\ (∀ (i : Nat), eW i c a_4 -> Cd c a_4 i = cU c a_2) /\ AEH c a_4 /\ ∀ (i : Nat), cI i c a_4 -> Aw c a_4 i = KM a_2 c /\ ZY c a_4 i = gD (BC c) a_2.i) /\
 Bd a_4 c a else ∃ (a_4 : IJ), (U9 c a_4 a_2 /\ ACZ a_4 c a_2 /\ AAQ a_4 c a_2 /\ Al a_4 a_2 /\ AKU a_4 a_2 /\ BG /\ GU /\ BG /\ GU /\ CE c /\ CG c /\
 R4 c a_4 a_2 /\ CE c /\ CG c /\ FA c /\ Al a_4 a_2 /\ TH c) /\ Yu a_4 c a /\ AJQ c a_4 a_2 else ∃ (a_4 : Nat), (BG /\ GU /\ BG /\ GU /\ CE c /\
 CG c /\ ADB c a_4 a_2 /\ CE c /\ CG c /\ FA c /\ Ci a_4 a_2 /\ TH c) /\ AJD a_4 c a) /\ (∀ (a_2 : Nat), AJD a_2 c a -> ∃ (a_4 : Nat), (BG /\ GU /\ BG /\
 GU /\ CE c /\ CG c /\ AFW c a_4 a_2 /\ CE c /\ CG c /\ FA c /\ tY a_4 a_2 /\ TH c) /\ H4 a_4 c /\ AGN c a_4 a) /\ bG c a else ∃ (a : One), (AAZ c /\
 AAZ c /\ ACA c /\ ACA c /\ I9 c) /\ True) /\ ∀ (a : Nat), Q0 a c -> bif E6 a c then (AUU a c /\ AXH a c /\ (∃ (a_2 : IJ), (AWX c a_2 a /\ BAK a_2 c a /\ ARJ a_2 c /\
 BIF a_2 a /\ BAI a_2 /\ BG /\ X3 c a_2 a /\ BG /\ ALC c a_2 a /\ CE c /\ CG c /\ AZQ c a_2 a /\ CE c /\ CG c /\ FA c /\ BDF a_2 a /\ c.p.lo = c.p.lo /\ c.p.hi
 = c.p.hi /\ c.base = c.base /\ c.scale = c.scale /\ c.off = c.off /\ GV c /\ GT c /\ HA c /\ HB c /\ FJ c /\ EW c /\ EY c /\ FB c /\ FL c /\ HY c /\ IC c /\ HV c /\
 HW c /\ ER /\ AT = AT /\ IM c /\ EA c /\ IL c /\ X3 c a_2 a /\ (∀ (i : Nat), cC i c a_2 -> gD (DA c a_2.i).q i = gD (DA c a).q i) /\ ALC c a_2 a /\ ∀ (i : Nat), eO i c
 a_2 -> RT c a_2 i = (gD (DA c a).r i).a /\ RH c a_2 i = (gD (DA c a).r i).b) /\ fD a_2 c a) /\ ∀ (a_2 : IJ), fD a_2 c a -> bif AIH a_2 then AAV a_2 c /\ AKG a_2 c /\ bif AJF
 c a_2 then AIB c a_2 /\ ((((DA c a_2.i).q.length = (DA c a_2.i).q.length /\ ((0 : Nat) < (DA c a_2.i).q.length -> A8)) /\ M4 /\ vZ /\ dH c a_2 <= (9223372036854775807 : Nat) /\ dH c a_2 *
 (8 : Nat) <= (140737488355328 : Nat)) /\ ((DA c a_2.i).r.length = (DA c a_2.i).r.length /\ ((0 : Nat) < (DA c a_2.i).r.length -> X1)) /\ AIL /\ vZ /\ eZ c a_2 <= (9223372036854775807 : Nat) /\
 eZ c a_2 * (16 : Nat) <= (140737488355328 : Nat)) /\ ∃ (a_4 : Nat), (BG /\ ACL c a_4 a_2 /\ BG /\ AAG c a_4 a_2 /\ CE c /\ CG c /\ R8 c a_4 a_2 /\ CE c /\ CG c /\
 FA c /\ Ci a_4 a_2 /\ c.p.lo = c.p.lo /\ c.p.hi = c.p.hi /\ c.base = c.base /\ c.scale = c.scale /\ c.off = c.off /\ GV c /\ GT c /\ HA c /\ HB c /\ FJ c /\ EW c /\ EY c /\
 FB c /\ FL c /\ HY c /\ IC c /\ HV c /\ HW c /\ ER /\ AT = AT /\ IM c /\ EA c /\ IL c /\ ACL c a_4 a_2 /\ (∀ (i : Nat), eW i c a_4 -> Cd c a_4 i = bif
 decide (cC i c a_2) then gD (DA c a_2.i).q i else cU c a_2) /\ AAG c a_4 a_2 /\ ∀ (i : Nat), cI i c a_4 -> (Aw c a_4 i = bif W0 i c a_2 then RT c a_2 i else KM a_2 c)
 /\ ZY c a_4 i = bif W0 i c a_2 then RH c a_2 i else gD (BC c) a_2.i) /\ Bd a_4 c a else ∃ (a_4 : IJ), (U9 c a_4 a_2 /\ ACZ a_4 c a_2 /\ AAQ a_4 c a_2 /\ Al a_4 a_2 /\
 AKU a_4 a_2 /\ BG /\ AGW c a_4 a_2 /\ BG /\ AAT c a_4 a_2 /\ CE c /\ CG c /\ R4 c a_4 a_2 /\ CE c /\ CG c /\ FA c /\ Al a_4 a_2 /\ c.p.lo = c.p.lo /\ c.p.hi =
 c.p.hi /\ c.base = c.base /\ c.scale = c.scale /\ c.off = c.off /\ GV c /\ GT c /\ HA c /\ HB c /\ FJ c /\ EW c /\ EY c /\ FB c /\ FL c /\ HY c /\ IC c /\ HV c /\
 HW c /\ ER /\ AT = AT /\ IM c /\ EA c /\ IL c /\ AGW c a_4 a_2 /\ (∀ (i : Nat), cC i c a_4 -> gD (DA c a_4.i).q i = gD (DA c a_2.i).q i) /\ AAT c a_4 a_2 /\ ∀ (i : Nat),
 eO i c a_4 -> RT c a_4 i = RT c a_2 i /\ RH c a_4 i = RH c a_2 i) /\ fD a_4 c a /\ AJQ c a_4 a_2 else ∃ (a_4 : Nat), (BG /\ U7 c a_4 a_2 /\ BG /\ P8 c
 a_4 a_2 /\ CE c /\ CG c /\ ADB c a_4 a_2 /\ CE c /\ CG c /\ FA c /\ Ci a_4 a_2 /\ c.p.lo = c.p.lo /\ c.p.hi = c.p.hi /\ c.base = c.base /\ c.scale = c.scale /\ c.off = c.off /\ GV c /\
 GT c /\ HA c /\ HB c /\ FJ c /\ EW c /\ EY c /\ FB c /\ FL c /\ HY c /\ IC c /\ HV c /\ HW c /\ ER /\ AT = AT /\ IM c /\ EA c /\ IL c /\
 U7 c a_4 a_2 /\ (∀ (i : Nat), eW i c a_4 -> Cd c a_4 i = gD (DA c a_2.i).q i) /\ P8 c a_4 a_2 /\ ∀ (i : Nat), cI i c a_4 -> Aw c a_4 i = RT c a_2 i /\ ZY c a_4 i =
 RH c a_2 i) /\ Bd a_4 c a) /\ bG c a /\ bG c a else ∃ (a_2 : One), ((fM c).q.length = (DA c a).q.length /\ (0 : Nat) + (DA c a).q.length <= (DA c a).q.length /\ (∀ (j : Nat), j < (fM
 c).q.length -> gD (fM c).q j = gD (DA c a).q (G2 j)) /\ (fM c).r.length = (DA c a).r.length /\ (0 : Nat) + (DA c a).r.length <= (DA c a).r.length /\ (∀ (j : Nat), j < (fM c).r.length -> (gD (fM c).r j).a =
 (AFC c a j).a /\ (gD (fM c).r j).b = (AFC c a j).b) /\ I9 c) /\ True) /\ AGR c /\ AGR c) := by kernel_rfl
theorem CSW (a b : Int) : dPr (.agg [FV a, .v (.int .i64 b)]) = ⟨a, b⟩ := rfl
theorem AZY (c : Cht) : Dk.mk c (AH c).st (AH c).sp = AH c := rfl
theorem CUS {c : Cht} (h : nsIn c) : ∀ i, i < c.ns.length -> 0 <= (gD c.ns i).mi /\ (gD c.ns i).mi < c.ms.length := λ i hi => h _ (List.any_eq_true.2 ⟨_, LZ hi, by simp⟩)
theorem CDJ (n : Nat) : (idL n).length = n := by unfold idL; simp
theorem BKC (c : Cht) : (BC c).Perm (idL c.ns.length) := AVU _ _
theorem AXB (c : Cht) : (BC c).length = c.ns.length := by rw [(BKC c).length_eq, CDJ]
theorem COP (c : Cht) {i : Nat} (hi : i < c.ns.length) : 0 <= gD (BC c) i /\ gD (BC c) i < c.ns.length := by
 have hm : gD (BC c) i ∈ idL c.ns.length := (BKC c).mem_iff.1 (LZ (by rw [AXB]; exact hi))
 obtain ⟨k, hk, e⟩ := PN hm
 rw [CDJ] at hk
 have e2 : gD (idL c.ns.length) k = (k : Int) := BH _ _ _ hk
 rw [<- e, e2]; omega
theorem CSY {c : Cht} {k : Nat} (hk : k <= c.ns.length) (h : ∀ t, t < k -> fwP c (DA c k).la (gD (BC c) k) (gD (BC c) t) = false) : DA c (k + 1) = DA c k := by
 show fwN c (DA c k) _ (((BC c).take k).find? _) = _
 rw [CEB]
 ·rfl
 ·intro t ht
  have ht : t < k := by rw [List.length_take] at ht; omega
  rw [Yc ht]; exact h t ht
theorem CUU {c : Cht} {k j : Nat} (hk : k <= c.ns.length) (hj : j < k) (h : ∀ t, t < j -> fwP c (DA c k).la (gD (BC c) k) (gD (BC c) t) = false) (h2 : fwP c (DA c k).la (gD (BC c) k) (gD (BC c) j) = true) : DA c (k + 1) = ⟨wr (miA c (gD (BC c) k) - 1), (DA c k).q ++ [wr (miA c (gD (BC c) k) - 1)], (DA c k).r ++ [⟨gD (BC c) j, gD (BC c) k⟩]⟩ := by
 have e : (((BC c).take k).find? (fwP c (DA c k).la (gD (BC c) k))) = some (gD ((BC c).take k) j) := CEF (by rw [List.length_take, AXB]; omega) (λ t ht => by rw [Yc (by omega)]; exact h t ht) (by rw [Yc hj]; exact h2)
 show fwN c (DA c k) _ (((BC c).take k).find? _) = _
 rw [e, Yc hj]; rfl
theorem CMY (c : Cht) : ∀ k, (DA c k).q.length <= k /\ (DA c k).r.length = (DA c k).q.length
 | 0 => ⟨Nat.le_refl _, rfl⟩
 | k + 1 => by
  obtain ⟨h1, h2⟩ := CMY c k
  show (fwN c (DA c k) _ (((BC c).take k).find? _)).q.length <= _ /\ (fwN c (DA c k) _ (((BC c).take k).find? _)).r.length = (fwN c (DA c k) _ (((BC c).take k).find? _)).q.length
  cases ((BC c).take k).find? (fwP c (DA c k).la (gD (BC c) k)) with
  | none => exact ⟨by show (DA c k).q.length <= _; omega, h2⟩
  | some a =>
   refine ⟨?_, ?_⟩
   ·show ((DA c k).q ++ [_]).length <= _
    rw [List.length_append]; simp; omega
   ·show ((DA c k).r ++ [_]).length = ((DA c k).q ++ [_]).length
    rw [List.length_append, List.length_append]; simp; omega
theorem bU {α : Type} [Inhabited α] (l : List α) (x : α) (i : Nat) (h : i < l.length + 1) : gD (l ++ [x]) i = bif decide (i < l.length) then gD l i else x := by
 rw [W5]
 by_cases h2 : i < l.length
 ·simp [h2]
 ·have : i - l.length = 0 := by omega
  rw [if_neg h2, this, decide_eq_false h2]; rfl
theorem CZO (c : Cht) (h1 : c.ms.length < 4611686018427387904 /\ c.ns.length < 4611686018427387904) (h0 : AK c = 0) (hn : 1 <= c.ns.length /\ c.ns.length <= 12) : CTU c := by
 have hl := ET h0
 have hs := dL h0
 have hM := CUS hs.1
 have hO := AXB c
 have hR := λ i (h : i < c.ns.length) => COP c h
 have hF := CMY c
 rw [CXA]; delta ANI yC BTD BTI BOR BMQ BPF AOT Xj BSO vQ BIV BHI AWG AYF AQL BBE AYA ASR K5 BG GU FA GV GT HA HB AUL SV BEM AXY M2 ATT Ok I1 J4 Bs BHU Di Cq AWT Ab ER N6 BDV BCG AWY BEN Tc A8 M4 AVX BFI BFW FJ EW EY FB FL HY IC HV HW IM EA IL xX uN E6 vZ Wg BGT tY AZW B6 Cu ATM AVT D8 G2 I9 TH CE CG H4 ARH AUU AXH AWX BGC BAK AQS I6 ARJ BIF BAI AZQ BDF At AWV Yu AIH AAV KM AKY Zn eT bZ dA QE ALH Y0 AKF AJT Y9 QD MK ACU Q2 Yb Av AJA AKD V5 AGY ABM AJV ABN V3 S9 aG ABG AIO AIJ U2 ACV AJJ ALF AHD X0 AKG ACP AJF AIB X1 AIL Zz Xi NA ACQ S1 QW AEH Xu cU R8 Ci eW Cd cI Y5 Aw ZY AHV Bd U9 ACZ AAQ Al AKU R4 ALI AJQ ADB AJD AFW AGN AFY T2 Q0 bG AAZ ACA X3 ALC cC eO RT RH fD dH eZ ACL AAG W0 AGW AAT U7 P8 AFC aU Yl ZD LU Ce bJ W9 R9 Yi AKW AKI AKK AAE aD U1 bH ACS Ya AHS AFN Df Zs dG MZ P2 S0 ABZ AGZ ACX Ba Bk RJ fE bY AIQ AII AIU AKB AKL ADJ AGD AIN AHJ AKA AEP AFE AFH Z2 ADZ P5 Xs aF ABO W8 ABS AKC Z5 ABL AJE AED AIC AGR; simp only [CC, eq_self, implies_true, forall_const, CB, AKH, YF, BYC, AZY, CSW]
 have hI : ∀ i, i < c.ns.length -> gD (AE c.ns.length λ i => (i : Int)) i = (i : Int) := λ i hi => BH _ _ _ hi
 have hT : ∀ k j, j < k -> gD ((BC c).take k) j = gD (BC c) j := λ k j h => Yc h
 have hTl : ∀ k, k <= c.ns.length -> ((BC c).take k).length = k := λ k h => by rw [List.length_take, hO]; omega
 have pre : ∀ x ∈ [0], True := λ _ _ => trivial
 refine ⟨⟨h1, h0⟩, ⟨⟨⟨default, trivial⟩, ?_, ?_⟩, λ _ => ⟨⟨⟨hI, hn.2, by omega, ?_⟩, default, hO, Nat.le_refl _, λ _ _ => rfl⟩, ⟨⟨0, ⟨rfl, by rw [hO], rfl⟩, Nat.zero_le _, rfl⟩, ?_, ?_⟩, ?_⟩⟩⟩
 ·refine ⟨λ _ => ⟨by decide, 1, ⟨rfl, by decide, rfl, λ i hi => by omega⟩, by omega, by omega⟩, λ h => h (by omega)⟩
 ·intro a ha
  refine ⟨λ h => ⟨⟨Nat.one_pos, (λ h => by cases h), by omega, by omega⟩, a + 1, ⟨rfl, by rw [FC (by omega) (by omega)]; rfl, rfl, λ i hi => ?_⟩, by omega, by omega⟩, λ h => ⟨default, by omega, by omega⟩⟩
  by_cases h2 : i < a
  ·rw [decide_eq_true h2]; rfl
  ·rw [decide_eq_false h2]; show (i : Int) = a; omega
 ·intro i hi; rw [hI i hi]; omega
 ·rintro k ⟨hk, hq⟩
  refine ⟨λ h => ?_, λ h => ?_⟩
  ·have hk2 : k < c.ns.length := by omega
   refine ⟨⟨⟨by omega, by omega⟩, ⟨by omega, by omega, by omega⟩, ⟨⟨k, 0⟩, ⟨rfl, hTl k hk, λ i hi => ?_, rfl, rfl, rfl, rfl⟩, ⟨hk2, rfl, Nat.zero_le _, λ t ht => absurd ht (Nat.not_lt_zero _)⟩, hq⟩, ?_⟩, ?_, ?_⟩
   ·rw [hT _ _ (by have hi : i < ((BC c).take k).length := hi; rw [hTl k hk] at hi; exact hi), show Int.toNat 0 = 0 from rfl, Nat.zero_add]
   ·rintro y ⟨⟨y1, y2, y3, y4⟩, y5⟩
    have hp : ∀ j, j < y.i -> (bif decide ((gD c.ns (gD ((BC c).take y.i) j).toNat).mi > (DA c y.i).la) then PO c { a := gD ((BC c).take y.i) j, b := gD (BC c) y.i } else false) = fwP c (DA c y.i).la (gD (BC c) y.i) (gD (BC c) j) := λ j hj => by rw [hT _ _ hj]; rfl
    refine ⟨λ hj => ⟨⟨by omega, by rw [hTl _ (by omega)]; exact hj⟩, ⟨by rw [hT _ _ (by omega)]; exact hR _ (by omega), λ _ => ⟨⟨by rw [hT _ _ (by omega)]; exact hR _ (by omega), hR _ y1⟩, ⟨hl.2.1.2, hl.2.2⟩, hM⟩⟩, λ hc => ?_, λ hc => ?_⟩, λ hj => ?_⟩
    ·rw [hp _ (by omega)] at hc
     have e := CUU (by omega) (by omega) y4 hc
     rw [hT _ _ (by omega)]
     have h8 : (DA c y.i).r = [] := List.length_eq_zero_iff.1 (by rw [(hF y.i).2, y5]; rfl)
     refine ⟨hR _ y1, by decide, y.i, ?_, y1, y2, ?_⟩
     ·rw [e, y5, h8]
      refine ⟨rfl, rfl, rfl, rfl, rfl, λ i hi => ?_, rfl, λ i hi => ?_⟩
      ·have hi : i < 1 := hi
       obtain rfl : i = 0 := by omega
       rfl
      ·have hi : i < 1 := hi
       obtain rfl : i = 0 := by omega
       exact ⟨rfl, rfl⟩
     ·rw [e, y5]; exact Nat.one_pos
    ·rw [hp _ (by omega)] at hc
     have e : IntKind.i64.wrap ((y.j : Int) + 1) = ((y.j + 1 : Nat) : Int) := by rw [FC (by omega) (by omega)]; rfl
     refine ⟨⟨y.i, y.j + 1⟩, ⟨rfl, rfl, λ _ _ => rfl, rfl, e.symm, rfl, rfl⟩, ⟨⟨y1, y2, by show y.j + 1 <= y.i; omega, λ t ht => ?_⟩, y5⟩, by show _ - (y.j + 1) < _; omega⟩
     have ht : t < y.j + 1 := ht
     by_cases h2 : t = y.j
     ·subst h2; exact hc
     ·exact y4 t (by omega)
    ·have e := CSY (by omega) (λ t (ht : t < y.i) => y4 t (by omega))
     refine ⟨y.i, ?_, y1, y2, ?_⟩
     ·rw [e]; exact ⟨rfl, rfl⟩
     ·rw [e]; exact y5
   ·rintro k' ⟨g1, g2, g3⟩
    refine ⟨k' + 1, ⟨rfl, by rw [FC (by omega) (by omega)]; rfl⟩, ⟨by omega, g3⟩, by omega⟩
   ·rintro k' ⟨g1, g2, g3⟩
    refine ⟨k' + 1, ⟨rfl, rfl, rfl, by rw [FC (by omega) (by omega)]; rfl, rfl, λ _ _ => rfl, rfl, λ _ _ => ⟨rfl, rfl⟩⟩, ⟨by omega, g3⟩, by omega⟩
  ·have e : k = c.ns.length := by omega
   have h8 : (DA c k).r = [] := List.length_eq_zero_iff.1 (by rw [(hF k).2, hq]; rfl)
   subst e
   exact ⟨default, by show (DA c _).q.length = 0; rw [hq]; rfl, by show (DA c _).q.length = 0; rw [hq]; rfl, by show (DA c _).r.length = 0; rw [h8]; rfl⟩
 ·rintro k ⟨hk, hq⟩
  refine ⟨λ h => ?_, λ h => ?_⟩
  ·have hk2 : k < c.ns.length := by omega
   refine ⟨⟨⟨by omega, by omega⟩, ⟨by omega, by omega, by omega⟩, ⟨⟨k, 0⟩, ⟨rfl, hTl k hk, λ i hi => ?_, rfl, rfl, rfl, rfl, rfl, rfl, rfl, λ _ _ => rfl, rfl, λ _ _ => ⟨rfl, rfl⟩⟩, ⟨hk2, rfl, Nat.zero_le _, λ t ht => absurd ht (Nat.not_lt_zero _)⟩, hq⟩, ?_⟩, ?_⟩
   ·rw [hT _ _ (by have hi : i < ((BC c).take k).length := hi; rw [hTl k hk] at hi; exact hi), show Int.toNat 0 = 0 from rfl, Nat.zero_add]
   ·rintro y ⟨⟨y1, y2, y3, y4⟩, y5⟩
    have hp : ∀ j, j < y.i -> (bif decide ((gD c.ns (gD ((BC c).take y.i) j).toNat).mi > (DA c y.i).la) then PO c { a := gD ((BC c).take y.i) j, b := gD (BC c) y.i } else false) = fwP c (DA c y.i).la (gD (BC c) y.i) (gD (BC c) j) := λ j hj => by rw [hT _ _ hj]; rfl
    refine ⟨λ hj => ⟨⟨by omega, by rw [hTl _ (by omega)]; exact hj⟩, ⟨by rw [hT _ _ (by omega)]; exact hR _ (by omega), λ _ => ⟨⟨by rw [hT _ _ (by omega)]; exact hR _ (by omega), hR _ y1⟩, ⟨hl.2.1.2, hl.2.2⟩, hM⟩⟩, λ hc => ?_, λ hc => ?_⟩, λ hj => ?_⟩
    ·rw [hp _ (by omega)] at hc
     have e := CUU (by omega) (by omega) y4 hc
     rw [hT _ _ (by omega)]
     have h9 := hF y.i
     refine ⟨hR _ y1, ⟨⟨Nat.one_pos, (λ h => by cases h), by omega, by omega⟩, Nat.one_pos, (λ h => by cases h), by omega, by omega⟩, y.i, ?_, y1, y2, ?_⟩
     ·rw [e]
      refine ⟨by simp, by simp, rfl, rfl, by simp, λ i hi => ?_, by simp, λ i hi => ?_⟩
      ·exact bU _ _ _ (by simpa using hi)
      ·have hi2 : i < (DA c y.i).r.length + 1 := by simpa using hi
       show (gD ((DA c y.i).r ++ [_]) i).a = _ /\ (gD ((DA c y.i).r ++ [_]) i).b = _
       rw [bU _ _ _ hi2]
       cases decide (i < (DA c y.i).r.length) <;> exact ⟨rfl, rfl⟩
     ·rw [e]; simp
    ·rw [hp _ (by omega)] at hc
     have e : IntKind.i64.wrap ((y.j : Int) + 1) = ((y.j + 1 : Nat) : Int) := by rw [FC (by omega) (by omega)]; rfl
     refine ⟨⟨y.i, y.j + 1⟩, ⟨rfl, rfl, λ _ _ => rfl, rfl, e.symm, rfl, rfl, rfl, rfl, rfl, λ _ _ => rfl, rfl, λ _ _ => ⟨rfl, rfl⟩⟩, ⟨⟨y1, y2, by show y.j + 1 <= y.i; omega, λ t ht => ?_⟩, y5⟩, by show _ - (y.j + 1) < _; omega⟩
     have ht : t < y.j + 1 := ht
     by_cases h2 : t = y.j
     ·subst h2; exact hc
     ·exact y4 t (by omega)
    ·have e := CSY (by omega) (λ t (ht : t < y.i) => y4 t (by omega))
     refine ⟨y.i, ?_, y1, y2, ?_⟩
     ·rw [e]; exact ⟨rfl, rfl, rfl, rfl, rfl, λ _ _ => rfl, rfl, λ _ _ => ⟨rfl, rfl⟩⟩
     ·rw [e]; exact y5
   ·rintro k' ⟨g1, g2, g3⟩
    refine ⟨k' + 1, ⟨rfl, rfl, rfl, by rw [FC (by omega) (by omega)]; rfl, rfl, λ _ _ => rfl, rfl, λ _ _ => ⟨rfl, rfl⟩⟩, ⟨by omega, g3⟩, by omega⟩
  ·have e : k = c.ns.length := by omega
   subst e
   exact ⟨default, rfl, Nat.le_refl _, λ _ _ => rfl, rfl, Nat.le_refl _, λ _ _ => ⟨rfl, rfl⟩⟩
 ·have h9 := hF c.ns.length
  refine ⟨⟨λ _ => rfl, by have : (fM c).q.length <= c.ns.length := h9.1; omega, hl.2.1.2⟩, ⟨hl.2.1.1, hl.2.1.2, hs.1⟩, λ hc => ?_, λ hc => ?_⟩
  ·have hc : (AU (fwW c)).2 = false := hc
   unfold N9; rw [hc]; exact ⟨rfl, rfl, rfl, rfl, rfl⟩
  ·have hc : (AU (fwW c)).2 = true := hc
   unfold N9; rw [hc]; exact ⟨rfl, λ _ _ => rfl, rfl, λ _ _ => ⟨rfl, rfl⟩, rfl⟩
def C_insZ : Ctr := { ro := [100], α := Cht, xs := λ _ => [.d GC, .int 0, .int 0, .fn (.func PM) [] [.bptr 100 0]], L := λ c => [(100, chB c)], val := λ _ => .d (.tup []), keep := λ c => [(100, .live (chB c))] }
def CKT : List AVal -> Heap -> Option (Cht × List (Nat × Nat) × List Nat)
 | [.d _, _, _, .fn _ _ [.bptr id _]], H => match SM H id with
  | some q => some (q, [(100, id)], [])
  | none => none
 | _, _ => none
def iz1 (c : Cht) : Shape := { α := One, dflt := default, T := λ _ => ⟨[(0, .d GC), (1, .int 0), (2, .int 0), (3, .fn (.func PM) [] [.bptr 100 0]), (8, .int 1)], [(100, .live (chB c))]⟩, inv := λ _ => True, meas := λ _ => 0 }
def CMP (c : Cht) : Ann := { ann 53 [] with E := [100], loops := λ id => if id = 1 then some [iz1 c] else none }
def CNB (c : Cht) : Prop := BB Try.prog (CMP c) AUD (AL AUD) (C_insZ.xs c) (AG (C_insZ.L c)) (C_insZ.val c) (C_insZ.keep c) [] []
theorem COU (c : Cht) : (CNB c) = ((∃ (a : One), ((0 : Nat) = (0 : Nat) /\ (∀ (i : Nat), i < (0 : Nat) -> false = false) /\ Int.ofNat (0 : Nat) = Int.ofNat (0 : Nat) /\ Int.ofNat (0 : Nat) = Int.ofNat (0 : Nat) /\
 Int.ofNat (1 : Nat) = Int.ofNat (((0 : Nat) + (1 : Nat)) % ((2 : Int) ^ IntKind.i64.bits).natAbs) /\ c.p.lo = c.p.lo /\ c.p.hi = c.p.hi /\ c.base = c.base /\ c.scale = c.scale /\ c.off = c.off /\ c.ms.length = c.ms.length /\ (∀
 (i : Nat), i < c.ms.length -> (gD c.ms i).pl = (gD c.ms i).pl /\ (gD c.ms i).ht = (gD c.ms i).ht) /\ c.ns.length = c.ns.length /\ ∀ (i : Nat), i < c.ns.length -> (gD c.ns i).mi = (gD c.ns i).mi /\ (gD c.ns i).t.lo = (gD c.ns
 i).t.lo /\ (gD c.ns i).t.hi = (gD c.ns i).t.hi /\ (gD c.ns i).s.lo = (gD c.ns i).s.lo /\ (gD c.ns i).s.hi = (gD c.ns i).s.hi) /\ True) /\ ∀ (a : One), True -> c.p.lo = c.p.lo /\ c.p.hi = c.p.hi /\ c.base = c.base /\ c.scale =
 c.scale /\ c.off = c.off /\ c.ms.length = c.ms.length /\ (∀ (i : Nat), i < c.ms.length -> (gD c.ms i).pl = (gD c.ms i).pl /\ (gD c.ms i).ht = (gD c.ms i).ht) /\ c.ns.length = c.ns.length /\ ∀ (i : Nat), i < c.ns.length -> (gD
 c.ns i).mi = (gD c.ns i).mi /\ (gD c.ns i).t.lo = (gD c.ns i).t.lo /\ (gD c.ns i).t.hi = (gD c.ns i).t.hi /\ (gD c.ns i).s.lo = (gD c.ns i).s.lo /\ (gD c.ns i).s.hi = (gD c.ns i).s.hi) := by kernel_rfl
theorem CPU : AM Try.prog V9 (C_insZ.spec CKT) := LM C_insZ CMP [] [] CDI (λ _ => by kernel_rfl) (λ _ => AJ) (λ (c : Cht) _ => by
 show CNB c; rw [COU]; exact ⟨⟨default, by simp; rfl, trivial⟩, λ _ _ => by simp⟩) (λ _ => OA rfl rfl) _
def C_pdqZ : Ctr := { ro := [100], α := Cht, xs := λ _ => [.d GC, .int 0, .int 0, .any, .fn (.func PM) [] [.bptr 100 0]], L := λ c => [(100, chB c)], val := λ _ => .d (.tup []), keep := λ c => [(100, .live (chB c))] }
def CJG : List AVal -> Heap -> Option (Cht × List (Nat × Nat) × List Nat)
 | [.d _, _, _, _, .fn _ _ [.bptr id _]], H => match SM H id with
  | some q => some (q, [(100, id)], [])
  | none => none
 | _, _ => none
def pz2 (c : Cht) : Shape := { α := One, dflt := default, T := λ _ => ⟨[(0, .d GC), (1, .int 0), (2, .int 0), (3, .any), (4, .fn (.func PM) [] [.bptr 100 0]), (10, .bool true), (11, .bool true)], [(100, .live (chB c))]⟩, inv := λ _ => True, meas := λ _ => 0 }
def COJ (c : Cht) : Ann := { ann 148 [(V9, C_insZ.spec CKT)] with E := [100], loops := λ id => if id = 2 then some [pz2 c] else none }
def CJA (c : Cht) : Prop := BB Try.prog (COJ c) BXR (AL BXR) (C_pdqZ.xs c) (AG (C_pdqZ.L c)) (C_pdqZ.val c) (C_pdqZ.keep c) [] []
theorem CRE (c : Cht) : (CJA c) = ((∃ (a : One), ((0 : Nat) = (0 : Nat) /\ (∀ (i : Nat), i < (0 : Nat) -> false = false) /\ Int.ofNat (0 : Nat) = Int.ofNat (0 : Nat) /\ Int.ofNat (0 : Nat) = Int.ofNat (0 : Nat) /\ true
 = true /\ true = true /\ c.p.lo = c.p.lo /\ c.p.hi = c.p.hi /\ c.base = c.base /\ c.scale = c.scale /\ c.off = c.off /\ c.ms.length = c.ms.length /\ (∀ (i : Nat), i < c.ms.length -> (gD c.ms i).pl = (gD c.ms i).pl /\ (gD c.ms
 i).ht = (gD c.ms i).ht) /\ c.ns.length = c.ns.length /\ ∀ (i : Nat), i < c.ns.length -> (gD c.ns i).mi = (gD c.ns i).mi /\ (gD c.ns i).t.lo = (gD c.ns i).t.lo /\ (gD c.ns i).t.hi = (gD c.ns i).t.hi /\ (gD c.ns i).s.lo = (gD
 c.ns i).s.lo /\ (gD c.ns i).s.hi = (gD c.ns i).s.hi) /\ True) /\ ∀ (a : One), True -> ((0 : Nat) = (0 : Nat) /\ (∀ (i : Nat), i < (0 : Nat) -> false = false) /\ Int.ofNat (0 : Nat) = Int.ofNat (0 : Nat) /\ Int.ofNat (0 : Nat) =
 Int.ofNat (0 : Nat) /\ c.p.lo = c.p.lo /\ c.p.hi = c.p.hi /\ c.base = c.base /\ c.scale = c.scale /\ c.off = c.off /\ (AE c.ms.length λ (i : Nat) => gD c.ms i).length = c.ms.length /\ (∀ (i : Nat), i < (AE c.ms.length fun
 (i : Nat) => gD c.ms i).length -> (gD (AE c.ms.length λ (i : Nat) => gD c.ms i) i).pl = (gD c.ms i).pl /\ (gD (AE c.ms.length λ (i : Nat) => gD c.ms i) i).ht = (gD c.ms i).ht) /\ (AE c.ns.length λ (i : Nat) => gD
 c.ns i).length = c.ns.length /\ (∀ (i : Nat), i < (AE c.ns.length λ (i : Nat) => gD c.ns i).length -> (gD (AE c.ns.length λ (i : Nat) => gD c.ns i) i).mi = (gD c.ns i).mi /\ (gD (AE c.ns.length λ (i : Nat) => gD
 c.ns i) i).t.lo = (gD c.ns i).t.lo /\ (gD (AE c.ns.length λ (i : Nat) => gD c.ns i) i).t.hi = (gD c.ns i).t.hi /\ (gD (AE c.ns.length λ (i : Nat) => gD c.ns i) i).s.lo = (gD c.ns i).s.lo /\ (gD (AE c.ns.length λ (i
 : Nat) => gD c.ns i) i).s.hi = (gD c.ns i).s.hi) /\ c.p.lo = c.p.lo /\ c.p.hi = c.p.hi /\ c.base = c.base /\ c.scale = c.scale /\ c.off = c.off /\ c.ms.length = (AE c.ms.length λ (i : Nat) => gD c.ms i).length /\ (∀ (i :
 Nat), i < c.ms.length -> (gD c.ms i).pl = (gD (AE c.ms.length λ (i : Nat) => gD c.ms i) i).pl /\ (gD c.ms i).ht = (gD (AE c.ms.length λ (i : Nat) => gD c.ms i) i).ht) /\ c.ns.length = (AE c.ns.length λ (i : Nat) =>
 gD c.ns i).length /\ ∀ (i : Nat), i < c.ns.length -> (gD c.ns i).mi = (gD (AE c.ns.length λ (i : Nat) => gD c.ns i) i).mi /\ (gD c.ns i).t.lo = (gD (AE c.ns.length λ (i : Nat) => gD c.ns i) i).t.lo /\ (gD c.ns i).t.hi
 = (gD (AE c.ns.length λ (i : Nat) => gD c.ns i) i).t.hi /\ (gD c.ns i).s.lo = (gD (AE c.ns.length λ (i : Nat) => gD c.ns i) i).s.lo /\ (gD c.ns i).s.hi = (gD (AE c.ns.length λ (i : Nat) => gD c.ns i) i).s.hi) /\
 c.p.lo = c.p.lo /\ c.p.hi = c.p.hi /\ c.base = c.base /\ c.scale = c.scale /\ c.off = c.off /\ c.ms.length = c.ms.length /\ (∀ (i : Nat), i < c.ms.length -> (gD c.ms i).pl = (gD c.ms i).pl /\ (gD c.ms i).ht = (gD c.ms i).ht) /\
 c.ns.length = c.ns.length /\ ∀ (i : Nat), i < c.ns.length -> (gD c.ns i).mi = (gD c.ns i).mi /\ (gD c.ns i).t.lo = (gD c.ns i).t.lo /\ (gD c.ns i).t.hi = (gD c.ns i).t.hi /\ (gD c.ns i).s.lo = (gD c.ns i).s.lo /\ (gD c.ns
 i).s.hi = (gD c.ns i).s.hi) := by kernel_rfl
theorem CRK : AM Try.prog BJZ (C_pdqZ.spec CJG) := LM C_pdqZ COJ [] [] CKW (λ _ => by kernel_rfl) (λ _ => AC CPU AJ) (λ (c : Cht) _ => by
 show CJA c; rw [CRE]; simp only [CC, eq_self, implies_true, forall_const]; exact ⟨default, trivial⟩) (λ _ => OA rfl rfl) _
def C_sortZ : Ctr := { ro := [100], α := Cht, xs := λ _ => [.d GC, .fn (.func PM) [] [.bptr 100 0]], L := λ c => [(100, chB c)], val := λ _ => .d (.tup []), keep := λ c => [(100, .live (chB c))] }
def CFW : List AVal -> Heap -> Option (Cht × List (Nat × Nat) × List Nat)
 | [.d _, .fn _ _ [.bptr id _]], H => match SM H id with
  | some q => some (q, [(100, id)], [])
  | none => none
 | _, _ => none
def CDH : Ann := { ann 14 [(BUR, BJT), (BJZ, C_pdqZ.spec CJG)] with E := [100] }
def CCX (c : Cht) : Prop := BB Try.prog CDH vC (AL vC) (C_sortZ.xs c) (AG (C_sortZ.L c)) (C_sortZ.val c) (C_sortZ.keep c) [] []
theorem CNQ (c : Cht) : (CCX c) = ((((0 : Int) <= IntKind.u64.wrap (↑(0 : Nat) : Int) /\ IntKind.u64.wrap (↑(0 : Nat) : Int) <= (20 : Int)) /\ (0 : Nat) = (0 : Nat) /\ (∀ (i : Nat), i < (0 : Nat) -> false = false) /\
 Int.ofNat (0 : Nat) = Int.ofNat (0 : Nat) /\ Int.ofNat (0 : Nat) = Int.ofNat (0 : Nat) /\ c.p.lo = c.p.lo /\ c.p.hi = c.p.hi /\ c.base = c.base /\ c.scale = c.scale /\ c.off = c.off /\ (AE c.ms.length λ (i : Nat) => gD c.ms
 i).length = c.ms.length /\ (∀ (i : Nat), i < (AE c.ms.length λ (i : Nat) => gD c.ms i).length -> (gD (AE c.ms.length λ (i : Nat) => gD c.ms i) i).pl = (gD c.ms i).pl /\ (gD (AE c.ms.length λ (i : Nat) => gD c.ms i)
 i).ht = (gD c.ms i).ht) /\ (AE c.ns.length λ (i : Nat) => gD c.ns i).length = c.ns.length /\ (∀ (i : Nat), i < (AE c.ns.length λ (i : Nat) => gD c.ns i).length -> (gD (AE c.ns.length λ (i : Nat) => gD c.ns i) i).mi
 = (gD c.ns i).mi /\ (gD (AE c.ns.length λ (i : Nat) => gD c.ns i) i).t.lo = (gD c.ns i).t.lo /\ (gD (AE c.ns.length λ (i : Nat) => gD c.ns i) i).t.hi = (gD c.ns i).t.hi /\ (gD (AE c.ns.length λ (i : Nat) => gD c.ns
 i) i).s.lo = (gD c.ns i).s.lo /\ (gD (AE c.ns.length λ (i : Nat) => gD c.ns i) i).s.hi = (gD c.ns i).s.hi) /\ c.p.lo = c.p.lo /\ c.p.hi = c.p.hi /\ c.base = c.base /\ c.scale = c.scale /\ c.off = c.off /\ c.ms.length = (AE
 c.ms.length λ (i : Nat) => gD c.ms i).length /\ (∀ (i : Nat), i < c.ms.length -> (gD c.ms i).pl = (gD (AE c.ms.length λ (i : Nat) => gD c.ms i) i).pl /\ (gD c.ms i).ht = (gD (AE c.ms.length λ (i : Nat) => gD c.ms i)
 i).ht) /\ c.ns.length = (AE c.ns.length λ (i : Nat) => gD c.ns i).length /\ ∀ (i : Nat), i < c.ns.length -> (gD c.ns i).mi = (gD (AE c.ns.length λ (i : Nat) => gD c.ns i) i).mi /\ (gD c.ns i).t.lo = (gD (AE
 c.ns.length λ (i : Nat) => gD c.ns i) i).t.lo /\ (gD c.ns i).t.hi = (gD (AE c.ns.length λ (i : Nat) => gD c.ns i) i).t.hi /\ (gD c.ns i).s.lo = (gD (AE c.ns.length λ (i : Nat) => gD c.ns i) i).s.lo /\ (gD c.ns
 i).s.hi = (gD (AE c.ns.length λ (i : Nat) => gD c.ns i) i).s.hi) /\ c.p.lo = c.p.lo /\ c.p.hi = c.p.hi /\ c.base = c.base /\ c.scale = c.scale /\ c.off = c.off /\ c.ms.length = c.ms.length /\ (∀ (i : Nat), i < c.ms.length ->
 (gD c.ms i).pl = (gD c.ms i).pl /\ (gD c.ms i).ht = (gD c.ms i).ht) /\ c.ns.length = c.ns.length /\ ∀ (i : Nat), i < c.ns.length -> (gD c.ns i).mi = (gD c.ns i).mi /\ (gD c.ns i).t.lo = (gD c.ns i).t.lo /\ (gD c.ns i).t.hi =
 (gD c.ns i).t.hi /\ (gD c.ns i).s.lo = (gD c.ns i).s.lo /\ (gD c.ns i).s.hi = (gD c.ns i).s.hi) := by kernel_rfl
theorem CLA : AM Try.prog vK (C_sortZ.spec CFW) := LM C_sortZ (λ _ => CDH) [] [] BYJ (λ _ => by kernel_rfl) (λ _ => AC CHY (AC CRK AJ)) (λ (c : Cht) _ => by
 show CCX c; rw [CNQ]; simp only [CC, eq_self, implies_true, forall_const]; rw [u64w (by omega) (by omega)]; omega) (λ _ => OA rfl rfl) _
def fz6 (c : Cht) : Shape := { α := One, dflt := default, T := λ _ => ⟨(7, .d GC) :: fw6S c 0, fwH c⟩, inv := λ _ => c.ns.length = 0, meas := λ _ => 60, first := fwR }
def fz15 (c : Cht) : Shape := { α := One, dflt := default, T := λ _ => ⟨CCW ++ [(1, .bptr 201 0), (5, .bptr 203 0), (7, .d GC), (11, .int (-1)), (41, .d GC), (42, .int 0), (43, .int 0)], fwH c⟩, inv := λ _ => c.ns.length = 0, meas := λ _ => 60 }
def CIA (c : Cht) : Ann := { ann 101 [(GX, C_open.spec dC1), (vK, C_sortZ.spec CFW), (AYT, C_stop.spec dDkZ), (yK, C_times.spec dDk1)] with loops := λ id => if id = 6 then some [fz6 c] else if id = 15 then some [fz15 c] else none }
def CLH (c : Cht) : Prop := BB Try.prog (CIA c) UI (AL UI) [.d (YE c)] (AG []) (.tup [.d (DK (N9 c).q), .d (Cx (N9 c).r), .int (N9 c).e]) [] [] []
abbrev wX (c : Cht) : List Mk := AE c.ms.length λ (i : Nat) => gD c.ms i
abbrev Mu (c : Cht) : Nat := (wX c).length
abbrev BJA (c : Cht) : Prop := Mu c = c.ms.length
abbrev AWU (c : Cht) (i : Nat) : Mk := gD (wX c) i
abbrev BCX (c : Cht) (i : Nat) : Int := (AWU c i).pl
abbrev BBV (c : Cht) (i : Nat) : Int := (AWU c i).ht
abbrev AXE (c : Cht) : Prop := ∀ (i : Nat), i < Mu c -> BCX c i = (gD c.ms i).pl /\ BBV c i = (gD c.ms i).ht
abbrev wT (c : Cht) : List Nt := AE c.ns.length λ (i : Nat) => gD c.ns i
abbrev Jj (c : Cht) : Nat := (wT c).length
abbrev AXA (c : Cht) : Prop := Jj c = c.ns.length
abbrev Yd (c : Cht) (i : Nat) : Nt := gD (wT c) i
abbrev ABY (c : Cht) (i : Nat) : Int := (Yd c i).mi
abbrev AKX (c : Cht) (i : Nat) : Span := (Yd c i).t
abbrev AIX (c : Cht) (i : Nat) : Int := (AKX c i).lo
abbrev AKE (c : Cht) (i : Nat) : Int := (AKX c i).hi
abbrev U4 (c : Cht) (i : Nat) : Span := (Yd c i).s
abbrev Y3 (c : Cht) (i : Nat) : Int := (U4 c i).lo
abbrev AHP (c : Cht) (i : Nat) : Int := (U4 c i).hi
abbrev Z3 (c : Cht) : Prop := ∀ (i : Nat), i < Jj c -> ABY c i = (gD c.ns i).mi /\ AIX c i = (gD c.ns i).t.lo /\ AKE c i = (gD c.ns i).t.hi /\ Y3 c i = (gD c.ns i).s.lo /\ AHP c i =
 (gD c.ns i).s.hi
abbrev ABT (c : Cht) : Cht := Cht.mk c.p c.base c.scale c.off (wX c) (wT c)
abbrev IU : Prop := (0 : Nat) = (0 : Nat)
abbrev MQ : Prop := ∀ (i : Nat), i < (0 : Nat) -> false = false
abbrev aA : Prop := Int.ofNat (0 : Nat) = Int.ofNat (0 : Nat)
abbrev AJB (c : Cht) : Prop := c.ms.length = c.ms.length
abbrev AHL (c : Cht) : Prop := ∀ (i : Nat), i < c.ms.length -> (gD c.ms i).pl = (gD c.ms i).pl /\ (gD c.ms i).ht = (gD c.ms i).ht
abbrev AIK (c : Cht) : Prop := c.ns.length = c.ns.length
abbrev AHI (c : Cht) : Prop := ∀ (i : Nat), i < c.ns.length -> (gD c.ns i).mi = (gD c.ns i).mi /\ (gD c.ns i).t.lo = (gD c.ns i).t.lo /\ (gD c.ns i).t.hi = (gD c.ns i).t.hi /\ (gD c.ns i).s.lo = (gD c.ns i).s.lo /\ (gD
 c.ns i).s.hi = (gD c.ns i).s.hi
abbrev ALE (c : Cht) : Dk := AH (ABT c)
abbrev MW (c : Cht) : Cht := (ALE c).c
abbrev ACB (c : Cht) : Span := (MW c).p
abbrev AJH (c : Cht) : List Mk := (MW c).ms
abbrev ACM (i : Nat) (c : Cht) : Prop := i < (AH c).c.ms.length
abbrev ADY (c : Cht) (i : Nat) : Mk := gD (AJH c) i
abbrev YO (c : Cht) : List Nt := (MW c).ns
abbrev Q9 (i : Nat) (c : Cht) : Prop := i < (AH c).c.ns.length
abbrev Ze (c : Cht) (i : Nat) : Nt := gD (YO c) i
abbrev Aq (c : Cht) (i : Nat) : Int := (gD (AH c).c.ns i).t.lo
abbrev ADW (c : Cht) (i : Nat) : Span := (Ze c i).t
abbrev Db (c : Cht) (i : Nat) : Int := (gD (AH c).c.ns i).t.hi
abbrev Au (c : Cht) (i : Nat) : Int := (gD (AH c).c.ns i).s.lo
abbrev T8 (c : Cht) (i : Nat) : Span := (Ze c i).s
abbrev Ay (c : Cht) (i : Nat) : Int := (gD (AH c).c.ns i).s.hi
abbrev RA : Prop := ∀ (i : Nat), i < (40 : Nat) -> false = false
abbrev Zx (c : Cht) (n : Int) : Nt := ntOf (YO c) n
abbrev ADK (c : Cht) (n : Int) : Span := (Zx c n).t
abbrev AFI (c : Cht) (n : Int) : Span := (Zx c n).s
abbrev YJ (c : Cht) : Prop := c.ns.length = (0 : Nat)
abbrev AJI : Prop := (0 : Nat) < (1 : Nat)
abbrev T5 (c : Cht) : Prop := (AH c).c.p.lo = (AH c).c.p.lo
abbrev AHH (c : Cht) : Prop := (AH c).c.p.hi = (AH c).c.p.hi
abbrev ADX (c : Cht) : Prop := (AH c).c.base = (AH c).c.base
abbrev P1 (c : Cht) : Prop := (AH c).c.scale = (AH c).c.scale
abbrev T3 (c : Cht) : Prop := (AH c).c.off = (AH c).c.off
abbrev Bp (c : Cht) : Prop := ∀ (n : Int), (AH c).st n = (AH c).st n
abbrev bC (c : Cht) : List Mk := AE (AH c).c.ms.length λ (i : Nat) => gD (AH c).c.ms i
abbrev Ye (c : Cht) : Nat := (bC c).length
abbrev ACT (c : Cht) (i : Nat) : Mk := gD (bC c) i
abbrev QC (c : Cht) : List Nt := AE (AH c).c.ns.length λ (i : Nat) => gD (AH c).c.ns i
abbrev AEX (c : Cht) : Nat := (QC c).length
abbrev Xy (c : Cht) (i : Nat) : Nt := gD (QC c) i
abbrev AFU (c : Cht) (i : Nat) : Span := (Xy c i).t
abbrev ACH (c : Cht) (i : Nat) : Span := (Xy c i).s
abbrev Yr (c : Cht) (n : Int) : Nt := ntOf (QC c) n
abbrev ADS (c : Cht) (n : Int) : Span := (Yr c n).t
abbrev AEQ (c : Cht) (n : Int) : Span := (Yr c n).s
abbrev bA (c : Cht) : Dk := Yk (DkZ.mk (Dk.mk (Cht.mk (AH c).c.p (AH c).c.base (AH c).c.scale (AH c).c.off (bC c) (QC c)) (AH c).st (AH c).sp) (AE (0 : Nat) λ (i : Nat) => default))
abbrev MR (c : Cht) : Cht := (bA c).c
abbrev Ao (c : Cht) : List Nt := (MR c).ns
abbrev Ys (c : Cht) (n : Int) : Nt := ntOf (Ao c) n
abbrev AFX (c : Cht) (n : Int) : Span := (Ys c n).t
abbrev AFA (c : Cht) (n : Int) : Span := (Ys c n).s
abbrev cT (c : Cht) : Span := (MR c).p
abbrev AJM (c : Cht) : Int := (cT c).lo
abbrev ADG (c : Cht) : Prop := AJM c = AJM c
abbrev AGC (c : Cht) : Int := (cT c).hi
abbrev AAO (c : Cht) : Prop := AGC c = AGC c
abbrev Zi (c : Cht) : Int := (MR c).base
abbrev W6 (c : Cht) : Prop := Zi c = Zi c
abbrev Yv (c : Cht) : Int := (MR c).scale
abbrev ADE (c : Cht) : Prop := Yv c = Yv c
abbrev Yg (c : Cht) : Int := (MR c).off
abbrev AIR (c : Cht) : Prop := Yg c = Yg c
abbrev AGB (c : Cht) : List Mk := (MR c).ms
abbrev Bn (c : Cht) : Nat := (AGB c).length
abbrev cX (c : Cht) (i : Nat) : Mk := gD (AGB c) i
abbrev cY (c : Cht) : List Mk := AE (Bn c) λ (i : Nat) => cX c i
abbrev LX (c : Cht) : Nat := (cY c).length
abbrev Z7 (c : Cht) (i : Nat) : Mk := gD (cY c) i
abbrev X5 (c : Cht) (i : Nat) : Int := (Z7 c i).pl
abbrev AES (c : Cht) (i : Nat) : Int := (cX c i).pl
abbrev AGE (c : Cht) (i : Nat) : Int := (Z7 c i).ht
abbrev AHX (c : Cht) (i : Nat) : Int := (cX c i).ht
abbrev ZO (c : Cht) : Nat := (Ao c).length
abbrev YV (c : Cht) (i : Nat) : Nt := gD (Ao c) i
abbrev QF (c : Cht) : List Nt := AE (ZO c) λ (i : Nat) => YV c i
abbrev dX (c : Cht) : Nat := (QF c).length
abbrev eQ (c : Cht) (i : Nat) : Nt := gD (QF c) i
abbrev Z4 (c : Cht) (i : Nat) : Int := (eQ c i).mi
abbrev AKZ (c : Cht) (i : Nat) : Int := (YV c i).mi
abbrev ABQ (c : Cht) (i : Nat) : Span := (eQ c i).t
abbrev kM (c : Cht) (i : Nat) : Int := (ABQ c i).lo
abbrev nR (c : Cht) (i : Nat) : Span := (YV c i).t
abbrev nQ (c : Cht) (i : Nat) : Int := (nR c i).lo
abbrev qR (c : Cht) (i : Nat) : Int := (ABQ c i).hi
abbrev jB (c : Cht) (i : Nat) : Int := (nR c i).hi
abbrev mI (c : Cht) (i : Nat) : Span := (eQ c i).s
abbrev iT (c : Cht) (i : Nat) : Int := (mI c i).lo
abbrev iW (c : Cht) (i : Nat) : Span := (YV c i).s
abbrev gA (c : Cht) (i : Nat) : Int := (iW c i).lo
abbrev qM (c : Cht) (i : Nat) : Int := (mI c i).hi
abbrev iP (c : Cht) (i : Nat) : Int := (iW c i).hi
abbrev En (c : Cht) (n : Int) : Bool := hasN (QF c) n
abbrev Hw (c : Cht) (n : Int) : Nt := ntOf (QF c) n
abbrev nE (c : Cht) (n : Int) : Int := (Hw c n).mi
abbrev mM (c : Cht) (n : Int) : Span := (Hw c n).t
abbrev oM (c : Cht) (n : Int) : Int := (mM c n).lo
abbrev hJ (c : Cht) (n : Int) : Int := (mM c n).hi
abbrev nC (c : Cht) (n : Int) : Span := (Hw c n).s
abbrev lK (c : Cht) (n : Int) : Int := (nC c n).lo
abbrev sO (c : Cht) (n : Int) : Int := (nC c n).hi
abbrev SP (c : Cht) : Prop := (N9 c).q.length = (0 : Nat)
abbrev RX (c : Cht) : Prop := (N9 c).r.length = (0 : Nat)
theorem CRF (c : Cht) : (CLH c) = ((c.p.lo = c.p.lo /\ c.p.hi = c.p.hi /\ c.base = c.base /\ c.scale = c.scale /\ c.off = c.off /\ BJA c /\ AXE c /\ AXA c /\ Z3 c /\ (Mu c < (4611686018427387904
 : Nat) /\ Jj c < (4611686018427387904 : Nat)) /\ AK (ABT c) = (0 : Int)) /\ (∃ (a : One), (IU /\ MQ /\ (↑c.ns.length : Int) = (↑c.ns.length : Int) /\ aA /\ c.p.lo = c.p.lo /\ c.p.hi = c.p.hi
 /\ c.base = c.base /\ c.scale = c.scale /\ c.off = c.off /\ AJB c /\ AHL c /\ AIK c /\ AHI c /\ (AH c).c.p.lo = (ACB c).lo /\ (AH c).c.p.hi = (ACB c).hi /\ (AH c).c.base = (MW
 c).base /\ (AH c).c.scale = (MW c).scale /\ (AH c).c.off = (MW c).off /\ (AH c).c.ms.length = (AJH c).length /\ (∀ (i : Nat), ACM i c -> (gD (AH c).c.ms i).pl = (ADY c i).pl /\ (gD (AH
 c).c.ms i).ht = (ADY c i).ht) /\ (AH c).c.ns.length = (YO c).length /\ (∀ (i : Nat), Q9 i c -> (gD (AH c).c.ns i).mi = (Ze c i).mi /\ Aq c i = (ADW c i).lo /\ Db c i =
 (ADW c i).hi /\ Au c i = (T8 c i).lo /\ Ay c i = (T8 c i).hi) /\ RA /\ AT = AT /\ (∀ (n : Int), hasN (AH c).c.ns n = hasN (YO c) n) /\ (∀ (n : Int), (AH c).st n =
 (ALE c).st n) /\ ∀ (n : Int), (ntOf (AH c).c.ns n).mi = (Zx c n).mi /\ (ntOf (AH c).c.ns n).t.lo = (ADK c n).lo /\ (ntOf (AH c).c.ns n).t.hi = (ADK c n).hi /\ (ntOf (AH c).c.ns n).s.lo =
 (AFI c n).lo /\ (ntOf (AH c).c.ns n).s.hi = (AFI c n).hi) /\ YJ c) /\ ∀ (a : One), YJ c -> bif decide ((↑(0 : Nat) : Int) < (↑c.ns.length : Int)) then ((True /\ ((0 : Nat) < (0 : Nat) -> (0 : Nat) =
 (1 : Nat))) /\ ((1 : Nat) <= (1 : Nat) /\ (AJI -> (1 : Nat) = (1 : Nat))) /\ (false = true -> AJI) /\ (1 : Nat) <= (9223372036854775807 : Nat) /\ (8 : Nat) <= (140737488355328 : Nat)) /\ False else (IU /\
 MQ /\ c.p.lo = c.p.lo /\ c.p.hi = c.p.hi /\ c.base = c.base /\ c.scale = c.scale /\ c.off = c.off /\ BJA c /\ AXE c /\ AXA c /\ Z3 c /\ c.p.lo = c.p.lo /\ c.p.hi = c.p.hi /\ c.base = c.base /\ c.scale =
 c.scale /\ c.off = c.off /\ c.ms.length = Mu c /\ (∀ (i : Nat), i < c.ms.length -> (gD c.ms i).pl = BCX c i /\ (gD c.ms i).ht = BBV c i) /\ c.ns.length = Jj c /\ ∀ (i : Nat), i < c.ns.length -> (gD c.ns
 i).mi = ABY c i /\ (gD c.ns i).t.lo = AIX c i /\ (gD c.ns i).t.hi = AKE c i /\ (gD c.ns i).s.lo = Y3 c i /\ (gD c.ns i).s.hi = AHP c i) /\ (∃ (a : One), (IU /\ MQ /\ IU /\
 MQ /\ IU /\ MQ /\ Int.negSucc (0 : Nat) = Int.negSucc (0 : Nat) /\ IU /\ MQ /\ aA /\ aA /\ c.p.lo = c.p.lo /\ c.p.hi = c.p.hi /\ c.base = c.base /\ c.scale = c.scale /\ c.off = c.off
 /\ AJB c /\ AHL c /\ AIK c /\ AHI c /\ T5 c /\ AHH c /\ ADX c /\ P1 c /\ T3 c /\ (AH c).c.ms.length = (AH c).c.ms.length /\ (∀ (i : Nat), ACM i c -> (gD (AH
 c).c.ms i).pl = (gD (AH c).c.ms i).pl /\ (gD (AH c).c.ms i).ht = (gD (AH c).c.ms i).ht) /\ (AH c).c.ns.length = (AH c).c.ns.length /\ (∀ (i : Nat), Q9 i c -> (gD (AH c).c.ns i).mi = (gD (AH c).c.ns i).mi
 /\ Aq c i = Aq c i /\ Db c i = Db c i /\ Au c i = Au c i /\ Ay c i = Ay c i) /\ RA /\ AT = AT /\ (∀ (n : Int), hasN (AH c).c.ns n = hasN (AH c).c.ns n) /\
 Bp c /\ ∀ (n : Int), (ntOf (AH c).c.ns n).mi = (ntOf (AH c).c.ns n).mi /\ (ntOf (AH c).c.ns n).t.lo = (ntOf (AH c).c.ns n).t.lo /\ (ntOf (AH c).c.ns n).t.hi = (ntOf (AH c).c.ns n).t.hi /\ (ntOf (AH
 c).c.ns n).s.lo = (ntOf (AH c).c.ns n).s.lo /\ (ntOf (AH c).c.ns n).s.hi = (ntOf (AH c).c.ns n).s.hi) /\ YJ c) /\ ∀ (a : One), YJ c -> (IU /\ IU /\ T5 c /\ AHH c /\ ADX c /\
 P1 c /\ T3 c /\ Ye c = (AH c).c.ms.length /\ (∀ (i : Nat), i < Ye c -> (ACT c i).pl = (gD (AH c).c.ms i).pl /\ (ACT c i).ht = (gD (AH c).c.ms i).ht) /\ AEX c = (AH
 c).c.ns.length /\ (∀ (i : Nat), i < AEX c -> (Xy c i).mi = (gD (AH c).c.ns i).mi /\ (AFU c i).lo = Aq c i /\ (AFU c i).hi = Db c i /\ (ACH c i).lo = Au c i /\ (ACH c
 i).hi = Ay c i) /\ RA /\ AT = AT /\ (∀ (n : Int), hasN (QC c) n = hasN (AH c).c.ns n) /\ Bp c /\ (∀ (n : Int), (Yr c n).mi = (ntOf (AH c).c.ns n).mi /\ (ADS c n).lo = (ntOf (AH
 c).c.ns n).t.lo /\ (ADS c n).hi = (ntOf (AH c).c.ns n).t.hi /\ (AEQ c n).lo = (ntOf (AH c).c.ns n).s.lo /\ (AEQ c n).hi = (ntOf (AH c).c.ns n).s.hi) /\ AT = AT /\ (∀ (n : Int), hasN (AH c).c.ns n =
 hasN (Ao c) n) /\ (∀ (n : Int), (AH c).st n = (bA c).st n) /\ (∀ (n : Int), (ntOf (AH c).c.ns n).mi = (Ys c n).mi /\ (ntOf (AH c).c.ns n).t.lo = (AFX c n).lo /\ (ntOf (AH c).c.ns n).t.hi =
 (AFX c n).hi /\ (ntOf (AH c).c.ns n).s.lo = (AFA c n).lo /\ (ntOf (AH c).c.ns n).s.hi = (AFA c n).hi) /\ (0 : Nat) < (4611686018427387904 : Nat) /\ Ye c <= (40 : Nat)) /\ (ADG c /\ AAO c
 /\ W6 c /\ ADE c /\ AIR c /\ LX c = Bn c /\ (∀ (i : Nat), i < LX c -> X5 c i = AES c i /\ AGE c i = AHX c i) /\ dX c = ZO c /\ (∀ (i : Nat), i <
 dX c -> Z4 c i = AKZ c i /\ kM c i = nQ c i /\ qR c i = jB c i /\ iT c i = gA c i /\ qM c i = iP c i) /\ RA /\ AT = AT /\ (∀ (n : Int),
 En c n = hasN (AH c).c.ns n) /\ Bp c /\ (∀ (n : Int), nE c n = (ntOf (AH c).c.ns n).mi /\ oM c n = (ntOf (AH c).c.ns n).t.lo /\ hJ c n = (ntOf (AH c).c.ns n).t.hi /\ lK c
 n = (ntOf (AH c).c.ns n).s.lo /\ sO c n = (ntOf (AH c).c.ns n).s.hi) /\ ADG c /\ AAO c /\ W6 c /\ ADE c /\ AIR c /\ Bn c = LX c /\ (∀ (i : Nat), i < Bn c ->
 AES c i = X5 c i /\ AHX c i = AGE c i) /\ ZO c = dX c /\ (∀ (i : Nat), i < ZO c -> AKZ c i = Z4 c i /\ nQ c i = kM c i /\ jB c i = qR c
 i /\ gA c i = iT c i /\ iP c i = qM c i) /\ RA /\ AT = AT /\ (∀ (n : Int), hasN (AH c).c.ns n = En c n) /\ Bp c /\ (∀ (n : Int), (ntOf (AH c).c.ns n).mi = nE c
 n /\ (ntOf (AH c).c.ns n).t.lo = oM c n /\ (ntOf (AH c).c.ns n).t.hi = hJ c n /\ (ntOf (AH c).c.ns n).s.lo = lK c n /\ (ntOf (AH c).c.ns n).s.hi = sO c n) /\ (1 : Nat) <= LX c /\
 LX c <= (40 : Nat) /\ ∀ (j : Int), En c j = true -> (0 : Int) <= j /\ j < (↑(LX c) : Int)) /\ bif !(AU (Dk.mk (Cht.mk (cT c) (Zi c) (Yv c) (Yg c) (cY c) (QF
 c)) (AH c).st (bA c).sp)).snd then SP c /\ SP c /\ RX c /\ RX c /\ (N9 c).e = (6 : Int) else SP c /\ SP c /\ RX c /\ RX c /\ (N9 c).e = (0 : Int)) := by
 kernel_rfl
def CIG : Ann := ann 101 [(GX, C_openX.spec dC1)]
def CNT (c : Cht) : Prop := BB Try.prog CIG UI (AL UI) [.d (YE c)] (AG []) (.tup [.d (DK nilI), .d (Cx nilP), .int (AK c)]) [] [] []
theorem CRJ (c : Cht) : (CNT c) = ((c.p.lo = c.p.lo /\ c.p.hi = c.p.hi /\ c.base = c.base /\ c.scale = c.scale /\ c.off = c.off /\ (AE c.ms.length λ (i : Nat) => gD c.ms i).length = c.ms.length /\ (∀ (i : Nat), i <
 (AE c.ms.length λ (i : Nat) => gD c.ms i).length -> (gD (AE c.ms.length λ (i : Nat) => gD c.ms i) i).pl = (gD c.ms i).pl /\ (gD (AE c.ms.length λ (i : Nat) => gD c.ms i) i).ht = (gD c.ms i).ht) /\ (AE c.ns.length
 λ (i : Nat) => gD c.ns i).length = c.ns.length /\ (∀ (i : Nat), i < (AE c.ns.length λ (i : Nat) => gD c.ns i).length -> (gD (AE c.ns.length λ (i : Nat) => gD c.ns i) i).mi = (gD c.ns i).mi /\ (gD (AE c.ns.length
 λ (i : Nat) => gD c.ns i) i).t.lo = (gD c.ns i).t.lo /\ (gD (AE c.ns.length λ (i : Nat) => gD c.ns i) i).t.hi = (gD c.ns i).t.hi /\ (gD (AE c.ns.length λ (i : Nat) => gD c.ns i) i).s.lo = (gD c.ns i).s.lo /\ (gD
 (AE c.ns.length λ (i : Nat) => gD c.ns i) i).s.hi = (gD c.ns i).s.hi) /\ ((AE c.ms.length λ (i : Nat) => gD c.ms i).length < 4611686018427387904 /\ (AE c.ns.length λ (i : Nat) => gD c.ns i).length <
 4611686018427387904) /\ AK (Cht.mk c.p c.base c.scale c.off (AE c.ms.length λ (i : Nat) => gD c.ms i) (AE c.ns.length λ (i : Nat) => gD c.ns i)) ≠ 0) /\ bif AK (Cht.mk c.p c.base c.scale c.off (AE
 c.ms.length λ (i : Nat) => gD c.ms i) (AE c.ns.length λ (i : Nat) => gD c.ns i)) != 0 then 0 = 0 /\ 0 = 0 /\ 0 = 0 /\ 0 = 0 /\ AK c = AK (Cht.mk c.p c.base c.scale c.off (AE c.ms.length λ (i : Nat) => gD c.ms
 i) (AE c.ns.length λ (i : Nat) => gD c.ns i)) else False) := by kernel_rfl
theorem CVP (c : Cht) (h1 : c.ms.length < 4611686018427387904 /\ c.ns.length < 4611686018427387904) (h0 : AK c = 0) (hn : c.ns.length = 0) : CLH c := by
 have hl := ET h0
 have hs := dL h0
 rw [CRF]; delta wX Mu BJA AWU BCX BBV AXE wT Jj AXA Yd ABY AKX AIX AKE U4 Y3 AHP Z3 ABT IU MQ aA AJB AHL AIK AHI ALE MW ACB AJH ACM ADY YO Q9 Ze Aq ADW Db Au T8 Ay RA Zx ADK AFI YJ AJI T5 AHH ADX P1 T3 Bp bC Ye ACT QC AEX Xy AFU ACH Yr ADS AEQ bA MR Ao Ys AFX AFA cT AJM ADG AGC AAO Zi W6 Yv ADE Yg AIR AGB Bn cX cY LX Z7 X5 AES AGE AHX ZO YV QF dX eQ Z4 AKZ ABQ kM nR nQ qR jB mI iT iW gA qM iP En Hw nE mM oM hJ nC lK sO SP RX; simp only [CC, eq_self, implies_true, forall_const, CB, AKH, YF, BYC, AZY]
 have hq : (fM c).q = [] := by unfold fM; rw [hn]; rfl
 have hr : (fM c).r = [] := by unfold fM; rw [hn]; rfl
 refine ⟨⟨h1, h0⟩, ⟨default, hn⟩, λ _ => ⟨λ h => by omega, λ _ => ⟨⟨default, hn⟩, λ _ => ⟨⟨λ n => rfl, by decide, hl.2.1.2⟩, ⟨hl.2.1.1, hl.2.1.2, hs.1⟩, λ hc => ?_, λ hc => ?_⟩⟩⟩⟩
 ·have hc : (AU (Yk ⟨AH c, []⟩)).2 = false := hc
  have hc : (AU (fwW c)).2 = false := by unfold fwW; rw [hq]; exact hc
  unfold N9; rw [hc]; exact ⟨rfl, rfl, rfl, rfl, rfl⟩
 ·have hc : (AU (Yk ⟨AH c, []⟩)).2 = true := hc
  have hc : (AU (fwW c)).2 = true := by unfold fwW; rw [hq]; exact hc
  unfold N9; rw [hc]
  exact ⟨by show (fM c).q.length = 0; rw [hq]; rfl, by show (fM c).q.length = 0; rw [hq]; rfl, by show (fM c).r.length = 0; rw [hr]; rfl, by show (fM c).r.length = 0; rw [hr]; rfl, rfl⟩
theorem CKS : AM Try.prog AQZ (C_few.spec dC1) := okT C_few (λ (c : Cht) h => by
 obtain ⟨h1, h2⟩ : (c.ms.length < 4611686018427387904 /\ c.ns.length < 4611686018427387904) /\ (AK c = 0 -> c.ns.length <= 12) := h
 by_cases h0 : AK c = 0
 ·have e : C_few.val c = .tup [.d (DK (N9 c).q), .d (Cx (N9 c).r), .int (N9 c).e] := by
   show AVal.tup [.d (DK (JE c).q), .d (Cx (JE c).r), .int (JE c).e] = _
   unfold JE; rw [h0]; rfl
  rw [e]
  rcases Nat.eq_zero_or_pos c.ns.length with hz | hp
  ·exact UV (A := CIA c) (L := []) (keep := []) (ren := []) (fz := []) T7 (by kernel_rfl) (AC xA (AC CLA (AC BLV (AC vL AJ)))) (CVP c h1 h0 hz)
  ·exact UV (A := CTX c) (L := []) (keep := []) (ren := []) (fz := []) T7 (by kernel_rfl) (AC xA (AC CRR (AC CEN (AC BLV (AC vL AJ))))) (CZO c h1 h0 ⟨hp, h2 h0⟩)
 ·have h0' : (AK c == 0) = false := by simpa using h0
  have e : C_few.val c = .tup [.d (DK nilI), .d (Cx nilP), .int (AK c)] := by
   show AVal.tup [.d (DK (JE c).q), .d (Cx (JE c).r), .int (JE c).e] = _
   unfold JE; rw [h0']; rfl
  rw [e]
  refine UV (A := CIG) (L := []) (keep := []) (ren := []) (fz := []) T7 (by kernel_rfl) (AC yD AJ) ?_
  show CNT c; rw [CRJ]; simp only [CC, eq_self, implies_true, forall_const, CB]
  simp [h1, h0, nilI, nilP]) _
def C_Stops : Ctr := { α := Cht, xs := λ c => [.d (YE c)], val := λ c => .tup [.d (DK (JE c).q), .int (JE c).e], keep := λ _ => [], pre := λ c => [(c.ms.length < 4611686018427387904 /\ c.ns.length < 4611686018427387904) /\ (AK c = 0 -> c.ns.length <= 12)] }
def APF : Ann := ann 15 [(AQZ, C_few.spec dC1)]
def CFT (c : Cht) : Prop := BB Try.prog APF BVO (AL BVO) [.d (YE c)] (AG []) (C_Stops.val c) [] [] []
theorem CJZ (c : Cht) : (CFT c) = ((c.p.lo = c.p.lo /\ c.p.hi = c.p.hi /\ c.base = c.base /\ c.scale = c.scale /\ c.off = c.off /\ (AE c.ms.length λ (i : Nat) => gD c.ms i).length = c.ms.length /\ (∀ (i : Nat), i <
 (AE c.ms.length λ (i : Nat) => gD c.ms i).length -> (gD (AE c.ms.length λ (i : Nat) => gD c.ms i) i).pl = (gD c.ms i).pl /\ (gD (AE c.ms.length λ (i : Nat) => gD c.ms i) i).ht = (gD c.ms i).ht) /\ (AE c.ns.length
 λ (i : Nat) => gD c.ns i).length = c.ns.length /\ (∀ (i : Nat), i < (AE c.ns.length λ (i : Nat) => gD c.ns i).length -> (gD (AE c.ns.length λ (i : Nat) => gD c.ns i) i).mi = (gD c.ns i).mi /\ (gD (AE c.ns.length
 λ (i : Nat) => gD c.ns i) i).t.lo = (gD c.ns i).t.lo /\ (gD (AE c.ns.length λ (i : Nat) => gD c.ns i) i).t.hi = (gD c.ns i).t.hi /\ (gD (AE c.ns.length λ (i : Nat) => gD c.ns i) i).s.lo = (gD c.ns i).s.lo /\ (gD
 (AE c.ns.length λ (i : Nat) => gD c.ns i) i).s.hi = (gD c.ns i).s.hi) /\ ((AE c.ms.length λ (i : Nat) => gD c.ms i).length < 4611686018427387904 /\ (AE c.ns.length λ (i : Nat) => gD c.ns i).length <
 4611686018427387904) /\ (AK (Cht.mk c.p c.base c.scale c.off (AE c.ms.length λ (i : Nat) => gD c.ms i) (AE c.ns.length λ (i : Nat) => gD c.ns i)) = 0 -> (AE c.ns.length λ (i : Nat) => gD c.ns i).length <= 12))
 /\ (JE c).q.length = (JE (Cht.mk c.p c.base c.scale c.off (AE c.ms.length λ (i : Nat) => gD c.ms i) (AE c.ns.length λ (i : Nat) => gD c.ns i))).q.length /\ (∀ (i : Nat), i < (JE c).q.length -> gD (JE c).q i =
 gD (JE (Cht.mk c.p c.base c.scale c.off (AE c.ms.length λ (i : Nat) => gD c.ms i) (AE c.ns.length λ (i : Nat) => gD c.ns i))).q i) /\ (JE c).e = (JE (Cht.mk c.p c.base c.scale c.off (AE c.ms.length λ (i :
 Nat) => gD c.ms i) (AE c.ns.length λ (i : Nat) => gD c.ns i))).e) := by kernel_rfl
theorem CMK : AM Try.prog BLT (C_Stops.spec dC1) := LM C_Stops (λ _ => APF) [] [] CLW (λ _ => by kernel_rfl) (λ _ => AC CKS AJ) (λ (c : Cht) h => by
 show CFT c; rw [CJZ]; simp only [CC, eq_self, implies_true, forall_const, CB]; exact h) (λ _ => OA rfl rfl) _
def C_Pairs : Ctr := { α := Cht, xs := λ c => [.d (YE c)], val := λ c => .tup [.d (Cx (JE c).r), .int (JE c).e], keep := λ _ => [], pre := λ c => [(c.ms.length < 4611686018427387904 /\ c.ns.length < 4611686018427387904) /\ (AK c = 0 -> c.ns.length <= 12)] }
def CFP (c : Cht) : Prop := BB Try.prog APF BUH (AL BUH) [.d (YE c)] (AG []) (C_Pairs.val c) [] [] []
theorem CNI (c : Cht) : (CFP c) = ((c.p.lo = c.p.lo /\ c.p.hi = c.p.hi /\ c.base = c.base /\ c.scale = c.scale /\ c.off = c.off /\ (AE c.ms.length λ (i : Nat) => gD c.ms i).length = c.ms.length /\ (∀ (i : Nat), i <
 (AE c.ms.length λ (i : Nat) => gD c.ms i).length -> (gD (AE c.ms.length λ (i : Nat) => gD c.ms i) i).pl = (gD c.ms i).pl /\ (gD (AE c.ms.length λ (i : Nat) => gD c.ms i) i).ht = (gD c.ms i).ht) /\ (AE c.ns.length
 λ (i : Nat) => gD c.ns i).length = c.ns.length /\ (∀ (i : Nat), i < (AE c.ns.length λ (i : Nat) => gD c.ns i).length -> (gD (AE c.ns.length λ (i : Nat) => gD c.ns i) i).mi = (gD c.ns i).mi /\ (gD (AE c.ns.length
 λ (i : Nat) => gD c.ns i) i).t.lo = (gD c.ns i).t.lo /\ (gD (AE c.ns.length λ (i : Nat) => gD c.ns i) i).t.hi = (gD c.ns i).t.hi /\ (gD (AE c.ns.length λ (i : Nat) => gD c.ns i) i).s.lo = (gD c.ns i).s.lo /\ (gD
 (AE c.ns.length λ (i : Nat) => gD c.ns i) i).s.hi = (gD c.ns i).s.hi) /\ ((AE c.ms.length λ (i : Nat) => gD c.ms i).length < 4611686018427387904 /\ (AE c.ns.length λ (i : Nat) => gD c.ns i).length <
 4611686018427387904) /\ (AK (Cht.mk c.p c.base c.scale c.off (AE c.ms.length λ (i : Nat) => gD c.ms i) (AE c.ns.length λ (i : Nat) => gD c.ns i)) = 0 -> (AE c.ns.length λ (i : Nat) => gD c.ns i).length <= 12))
 /\ (JE c).r.length = (JE (Cht.mk c.p c.base c.scale c.off (AE c.ms.length λ (i : Nat) => gD c.ms i) (AE c.ns.length λ (i : Nat) => gD c.ns i))).r.length /\ (∀ (i : Nat), i < (JE c).r.length -> (gD (JE c).r
 i).a = (gD (JE (Cht.mk c.p c.base c.scale c.off (AE c.ms.length λ (i : Nat) => gD c.ms i) (AE c.ns.length λ (i : Nat) => gD c.ns i))).r i).a /\ (gD (JE c).r i).b = (gD (JE (Cht.mk c.p c.base c.scale c.off (AE
 c.ms.length λ (i : Nat) => gD c.ms i) (AE c.ns.length λ (i : Nat) => gD c.ns i))).r i).b) /\ (JE c).e = (JE (Cht.mk c.p c.base c.scale c.off (AE c.ms.length λ (i : Nat) => gD c.ms i) (AE c.ns.length λ (i :
 Nat) => gD c.ns i))).e) := by kernel_rfl
theorem CKE : AM Try.prog BSW (C_Pairs.spec dC1) := LM C_Pairs (λ _ => APF) [] [] CMW (λ _ => by kernel_rfl) (λ _ => AC CKS AJ) (λ (c : Cht) h => by
 show CFP c; rw [CNI]; simp only [CC, eq_self, implies_true, forall_const, CB]; exact h) (λ _ => OA rfl rfl) _
end Go.Bal
