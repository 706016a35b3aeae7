/- Package chart: the fewest stops. -/
import Derived.Test.YtdbjalgfomknhaaChJ
import Derived.Test.YtdbjalgfomknhaaChS
set_option linter.unusedVariables false
set_option linter.unusedSimpArgs false
namespace Go.Bal
open Go Go.Sym Go.Proofs
def idL (n : Nat) : List Int := AE n λ i => (i : Int)
def BA (c : Cht) : List Int := stM (IC c) (idL c.ns.length)
structure FwS where
 la : Int
 q : List Int
 r : List Pr
 deriving Inhabited
def miA (c : Cht) (a : Int) : Int := (gD c.ns a.toNat).mi
def fwP (c : Cht) (la b a : Int) : Bool := bif decide (miA c a > la) then PI c ⟨a, b⟩ else false
def fwN (c : Cht) (s : FwS) (b : Int) : Option Int -> FwS
 | none => s
 | some a => ⟨wr (miA c b - 1), s.q ++ [wr (miA c b - 1)], s.r ++ [⟨a, b⟩]⟩
def DA (c : Cht) : Nat -> FwS
 | 0 => ⟨-1, [], []⟩
 | k + 1 => fwN c (DA c k) (gD (BA c) k) (((BA c).take k).find? (fwP c (DA c k).la (gD (BA c) k)))
def eT (c : Cht) : FwS := DA c c.ns.length
def fwW (c : Cht) : Dk := Xe ⟨AH c, (eT c).q⟩
structure FwR where
 q : List Int
 r : List Pr
 e : Int
def nilI : List Int := []
def nilP : List Pr := []
def H7 (c : Cht) : FwR := bif (AU (fwW c)).2 then ⟨(eT c).q, (eT c).r, 0⟩ else ⟨nilI, nilP, 6⟩
def JC (c : Cht) : FwR := bif AK c == 0 then H7 c else ⟨nilI, nilP, AK c⟩
def C_few : Ctr := { α := Cht, xs := λ c => [.d (XX c)], val := λ c => .tup [.d (DI (JC c).q), .d (Cf (JC c).r), .int (JC c).e], keep := λ _ => [], pre := λ c => [(c.ms.length < 4611686018427387904 /\ c.ns.length < 4611686018427387904) /\ (AK c = 0 -> c.ns.length <= 12)] }
def fwH (c : Cht) : List (Nat × HCell) := [(201, .live (chB c)), (203, .live (dkB (AH c) 204)), (204, .live (dkM (AH c)))]
def fw6S (c : Cht) (k : Nat) : List (Nat × AVal) := [(1, .bptr 201 0), (5, .bptr 203 0), (29, .int c.ns.length), (30, .int k)]
def fwR : List (Nat × Nat) := [(201, 1000), (203, 2016), (204, 2017)]
def fw6n (c : Cht) : Shape := { α := One, dflt := default, T := λ _ => ⟨(7, .d GA) :: fw6S c 0, fwH c⟩, inv := λ _ => True, meas := λ _ => 60, first := fwR }
def fw6o (c : Cht) : Shape := { α := Nat, dflt := 0, T := λ k => ⟨(7, .own 202 1 0 k) :: fw6S c k, fwH c ++ [(202, .live (.row 1 k λ i => FT i))]⟩, inv := λ k => 1 <= k /\ k <= c.ns.length, meas := λ k => 50 - k, again := [(202, 9048)] }
def fwB (c : Cht) : List (Nat × AVal) := [(1, .bptr 201 0), (5, .bptr 203 0), (7, .d (DI (BA c)))]
def fw11 (c : Cht) (z : List Nat) : Shape := { α := One, dflt := default, T := λ _ => ⟨fwB c, fwH c⟩, inv := λ _ => True, meas := λ _ => 0, ffz := z }
def fwT (c : Cht) (k : Nat) : List (Nat × AVal) := fwB c ++ [(11, .int (DA c k).la), (41, .d (DI (BA c))), (42, .int c.ns.length), (43, .int k)]
def fwY (c : Cht) (k : Nat) : List (Nat × HCell) := fwH c ++ [(301, .live (.row 1 (DA c k).q.length λ i => FT (gD (DA c k).q i))), (302, .live (.row 2 (DA c k).r.length λ i => ePr (gD (DA c k).r i)))]
def CFO : List (Nat × AVal) := [(9, .d GA), (10, .d GA)]
def COB (c : Cht) (k : Nat) : List (Nat × AVal) := [(9, .own 301 1 0 (DA c k).q.length), (10, .own 302 2 0 (DA c k).r.length)]
def CXZ (c : Cht) : Shape := { α := Nat, dflt := 0, T := λ k => ⟨CFO ++ fwT c k, fwH c⟩, inv := λ k => k <= c.ns.length /\ (DA c k).q = [], meas := λ k => c.ns.length - k, tag := [0] }
def CXX (c : Cht) : Shape := { α := Nat, dflt := 0, T := λ k => ⟨COB c k ++ fwT c k, fwY c k⟩, inv := λ k => k <= c.ns.length /\ 1 <= (DA c k).q.length, meas := λ k => c.ns.length - k, tag := [1] }
def fwJ (c : Cht) (k j : Nat) : List (Nat × AVal) := [(13, .int (gD (BA c) k)), (50, .d (DI ((BA c).take k))), (51, .int k), (52, .int j)]
def CZZ (c : Cht) (m : Nat) : Shape := { α := IJ, dflt := default, T := λ s => ⟨fwJ c s.i s.j ++ (CFO ++ fwT c s.i), fwH c⟩, inv := λ s => (s.i < c.ns.length /\ c.ns.length - s.i = m /\ s.j <= s.i /\ ∀ t, t < s.j -> fwP c (DA c s.i).la (gD (BA c) s.i) (gD (BA c) t) = false) /\ (DA c s.i).q = [], meas := λ s => c.ns.length - s.j }
def CYZ (c : Cht) (m : Nat) : Shape := { α := IJ, dflt := default, T := λ s => ⟨fwJ c s.i s.j ++ (COB c s.i ++ fwT c s.i), fwY c s.i⟩, inv := λ s => (s.i < c.ns.length /\ c.ns.length - s.i = m /\ s.j <= s.i /\ ∀ t, t < s.j -> fwP c (DA c s.i).la (gD (BA c) s.i) (gD (BA c) t) = false) /\ 1 <= (DA c s.i).q.length, meas := λ s => c.ns.length - s.j }
def fwT2 (c : Cht) (k : Nat) : List (Nat × AVal) := fwB c ++ [(11, .int (DA c (k + 1)).la), (41, .d (DI (BA c))), (42, .int c.ns.length), (43, .int k)]
def CYM (c : Cht) (m : Nat) : Shape := { α := Nat, dflt := 0, T := λ k => ⟨CFO ++ fwT2 c k, fwH c⟩, inv := λ k => k < c.ns.length /\ c.ns.length - k = m /\ (DA c (k + 1)).q = [], meas := λ _ => 0 }
def CNJ (c : Cht) (m : Nat) (f : List (Nat × Nat)) : Shape := { α := Nat, dflt := 0, T := λ k => ⟨COB c (k + 1) ++ fwT2 c k, fwY c (k + 1)⟩, inv := λ k => k < c.ns.length /\ c.ns.length - k = m /\ 1 <= (DA c (k + 1)).q.length, meas := λ _ => 0, first := f }
def fw26 (c : Cht) (z : List Nat) : Shape := { α := One, dflt := default, T := λ _ => ⟨[(5, .bptr 203 0), (9, .d (DI (eT c).q)), (10, .d (Cf (eT c).r))], [(203, .live (dkB (AH c) 204)), (204, .live (dkM (AH c)))]⟩, inv := λ _ => True, meas := λ _ => 0, ffz := z }
def fw10 (c : Cht) : Shape := { α := One, dflt := default, T := λ _ => ⟨[(1, .bptr 201 0), (5, .bptr 203 0), (7, .own 202 1 0 c.ns.length)], fwH c ++ [(202, .live (.row 1 c.ns.length λ i => FT i))]⟩, inv := λ _ => 1 <= c.ns.length, meas := λ _ => 0 }
def CUB (c : Cht) : Ann := { ann 101 [(GR, C_open.spec dC1), (G8, C_sort.spec dGLt), (BQM, C_late.spec dDkP), (BHZ, C_stop.spec dDkZ), (yA, C_times.spec Z1)] with mt := λ id => id == 8 || id == 23, loops := λ id => if id = 6 then some [fw6n c, fw6o c] else if id = 15 then some [CXZ c, CXX c] else none, inner := λ gs id => if id = 18 then (if gs.getD 1 0 = 0 then some [CZZ c (gs.getD 0 0)] else some [CYZ c (gs.getD 0 0)]) else none, cut := λ id => if id = 10 then some [fw10 c] else if id = 11 then some [fw11 c [202]] else if id = 26 then some [fw26 c [], fw26 c [301, 302]] else none, cutIn := λ gs id => if id = 25 then (if gs.getD 1 0 = 0 then some [CYM c (gs.getD 0 0), CNJ c (gs.getD 0 0) [(301, 24048), (302, 24112)]] else some [CNJ c (gs.getD 0 0) [(301, 24048), (302, 24112)], CNJ c (gs.getD 0 0) []]) else none }
def CSU (c : Cht) : Prop := AZ Try.prog (CUB c) TV (AL TV) [.d (XX c)] (AG []) (.tup [.d (DI (H7 c).q), .d (Cf (H7 c).r), .int (H7 c).e]) [] [] []
abbrev ANE (c : Cht) : List Mk := AE c.ms.length λ (i : Nat) => gD c.ms i
abbrev vO (c : Cht) : Nat := (ANE c).length
abbrev BVN (c : Cht) : Prop := vO c = c.ms.length
abbrev BVP (c : Cht) (i : Nat) : Mk := gD (ANE c) i
abbrev BPO (c : Cht) (i : Nat) : Int := (BVP c i).pl
abbrev BUN (c : Cht) (i : Nat) : Int := (BVP c i).ht
abbrev BRL (c : Cht) : Prop := ∀ (i : Nat), i < vO c -> BPO c i = (gD c.ms i).pl /\ BUN c i = (gD c.ms i).ht
abbrev AMR (c : Cht) : List Nt := AE c.ns.length λ (i : Nat) => gD c.ns i
abbrev aP (c : Cht) : Nat := (AMR c).length
abbrev BPT (c : Cht) : Prop := aP c = c.ns.length
abbrev tJ (c : Cht) (i : Nat) : Nt := gD (AMR c) i
abbrev BCW (c : Cht) (i : Nat) : Int := (tJ c i).mi
abbrev BFU (c : Cht) (i : Nat) : Span := (tJ c i).t
abbrev BHJ (c : Cht) (i : Nat) : Int := (BFU c i).lo
abbrev BIY (c : Cht) (i : Nat) : Int := (BFU c i).hi
abbrev AYO (c : Cht) (i : Nat) : Span := (tJ c i).s
abbrev ATZ (c : Cht) (i : Nat) : Int := (AYO c i).lo
abbrev AVH (c : Cht) (i : Nat) : Int := (AYO c i).hi
abbrev BBP (c : Cht) : Prop := ∀ (i : Nat), i < aP c -> BCW c i = (gD c.ns i).mi /\ BHJ c i = (gD c.ns i).t.lo /\ BIY c i = (gD c.ns i).t.hi /\ ATZ c i = (gD c.ns i).s.lo /\ AVH c i = (gD
 c.ns i).s.hi
abbrev G9 (c : Cht) : Cht := Cht.mk c.p c.base c.scale c.off (ANE c) (AMR c)
abbrev BG : Prop := (0 : Nat) = (0 : Nat)
abbrev GX : Prop := ∀ (i : Nat), i < (0 : Nat) -> false = false
abbrev FI (c : Cht) : Prop := (↑c.ns.length : Int) = (↑c.ns.length : Int)
abbrev GW (c : Cht) : Prop := c.ms.length = c.ms.length
abbrev GV (c : Cht) : Prop := ∀ (i : Nat), i < c.ms.length -> (gD c.ms i).pl = (gD c.ms i).pl /\ (gD c.ms i).ht = (gD c.ms i).ht
abbrev GT (c : Cht) : Prop := c.ns.length = c.ns.length
abbrev GQ (c : Cht) : Prop := ∀ (i : Nat), i < c.ns.length -> (gD c.ns i).mi = (gD c.ns i).mi /\ (gD c.ns i).t.lo = (gD c.ns i).t.lo /\ (gD c.ns i).t.hi = (gD c.ns i).t.hi /\ (gD c.ns i).s.lo = (gD c.ns i).s.lo /\ (gD
 c.ns i).s.hi = (gD c.ns i).s.hi
abbrev AZD (c : Cht) : Dk := AH (G9 c)
abbrev TL (c : Cht) : Cht := (AZD c).c
abbrev AXN (c : Cht) : Span := (TL c).p
abbrev APZ (c : Cht) : List Mk := (TL c).ms
abbrev H3 (i : Nat) (c : Cht) : Prop := i < (AH c).c.ms.length
abbrev AWX (c : Cht) (i : Nat) : Mk := gD (APZ c) i
abbrev Rc (c : Cht) : List Nt := (TL c).ns
abbrev N3 (i : Nat) (c : Cht) : Prop := i < (AH c).c.ns.length
abbrev yD (c : Cht) (i : Nat) : Nt := gD (Rc c) i
abbrev ZT (c : Cht) (i : Nat) : Int := (gD (AH c).c.ns i).t.lo
abbrev BFW (c : Cht) (i : Nat) : Span := (yD c i).t
abbrev Bs (c : Cht) (i : Nat) : Int := (gD (AH c).c.ns i).t.hi
abbrev Bm (c : Cht) (i : Nat) : Int := (gD (AH c).c.ns i).s.lo
abbrev BDG (c : Cht) (i : Nat) : Span := (yD c i).s
abbrev Cs (c : Cht) (i : Nat) : Int := (gD (AH c).c.ns i).s.hi
abbrev EQ : Prop := ∀ (i : Nat), i < (40 : Nat) -> false = false
abbrev sZ (c : Cht) (n : Int) : Nt := ntOf (Rc c) n
abbrev AQE (c : Cht) (n : Int) : Span := (sZ c n).t
abbrev ASL (c : Cht) (n : Int) : Span := (sZ c n).s
abbrev AUO : Prop := (0 : Nat) < (0 : Nat)
abbrev BEW : Prop := (1 : Nat) <= (1 : Nat)
abbrev Kc : Prop := (0 : Nat) < (1 : Nat)
abbrev A5 : Prop := (1 : Nat) = (1 : Nat)
abbrev zJ : Prop := BEW /\ (Kc -> A5)
abbrev BCO : Prop := true = true -> Kc
abbrev APX : Prop := (1 : Nat) <= (9223372036854775807 : Nat)
abbrev BIE : Prop := (True /\ (AUO -> (0 : Nat) = (1 : Nat))) /\ zJ /\ BCO /\ APX /\ (8 : Nat) <= (140737488355328 : Nat)
abbrev EV (c : Cht) : Prop := (AH c).c.p.lo = (AH c).c.p.lo
abbrev EX (c : Cht) : Prop := (AH c).c.p.hi = (AH c).c.p.hi
abbrev FA (c : Cht) : Prop := (AH c).c.base = (AH c).c.base
abbrev FL (c : Cht) : Prop := (AH c).c.scale = (AH c).c.scale
abbrev FJ (c : Cht) : Prop := (AH c).c.off = (AH c).c.off
abbrev HT (c : Cht) : Prop := (AH c).c.ms.length = (AH c).c.ms.length
abbrev HP (c : Cht) : Prop := ∀ (i : Nat), H3 i c -> (gD (AH c).c.ms i).pl = (gD (AH c).c.ms i).pl /\ (gD (AH c).c.ms i).ht = (gD (AH c).c.ms i).ht
abbrev HN (c : Cht) : Prop := (AH c).c.ns.length = (AH c).c.ns.length
abbrev HU (c : Cht) : Prop := ∀ (i : Nat), N3 i c -> (gD (AH c).c.ns i).mi = (gD (AH c).c.ns i).mi /\ ZT c i = ZT c i /\ Bs c i = Bs c i /\ Bm c i = Bm c i /\ Cs c i =
 Cs c i
abbrev HY (c : Cht) : Prop := ∀ (n : Int), hasN (AH c).c.ns n = hasN (AH c).c.ns n
abbrev EB (c : Cht) : Prop := ∀ (n : Int), (AH c).st n = (AH c).st n
abbrev HL (c : Cht) : Prop := ∀ (n : Int), (ntOf (AH c).c.ns n).mi = (ntOf (AH c).c.ns n).mi /\ (ntOf (AH c).c.ns n).t.lo = (ntOf (AH c).c.ns n).t.lo /\ (ntOf (AH c).c.ns n).t.hi = (ntOf (AH c).c.ns
 n).t.hi /\ (ntOf (AH c).c.ns n).s.lo = (ntOf (AH c).c.ns n).s.lo /\ (ntOf (AH c).c.ns n).s.hi = (ntOf (AH c).c.ns n).s.hi
abbrev vU (a : Nat) (c : Cht) : Prop := (1 : Nat) <= a /\ a <= c.ns.length
abbrev zU (a : Nat) : Nat := (50 : Nat) - a
abbrev yJ (a : Nat) (c : Cht) : Bool := decide ((↑a : Int) < (↑c.ns.length : Int))
abbrev tP : Prop := false = true -> Kc
abbrev Ra (a : Nat) : Nat := a + (1 : Nat)
abbrev AQN (a : Nat) (a1 : Nat) : Prop := a = Ra a1
abbrev wZ (a : Nat) (a1 : Nat) : Prop := (↑a : Int) = IntKind.i64.wrap ((↑a1 : Int) + (1 : Int))
abbrev AWV (c : Cht) : Prop := Nat.le (1 : Nat) c.ns.length
abbrev L7 (c : Cht) : List Int := AE c.ns.length λ (i : Nat) => (↑i : Int)
abbrev By (c : Cht) : Nat := (L7 c).length
abbrev AWE (c : Cht) : Prop := By c = c.ns.length
abbrev AZN (i : Nat) (c : Cht) : Prop := i < By c
abbrev xG (c : Cht) (i : Nat) : Int := gD (L7 c) i
abbrev I7 (j : Nat) : Nat := (0 : Nat) + j
abbrev vH (c : Cht) : Prop := EV c /\ EX c /\ FA c /\ FL c /\ FJ c /\ HT c /\ HP c /\ HN c /\ HU c /\ EQ /\ AT = AT /\ HY c /\ EB c /\ HL c
abbrev SU (c : Cht) : Prop := c.p.lo = c.p.lo /\ c.p.hi = c.p.hi /\ c.base = c.base /\ c.scale = c.scale /\ c.off = c.off /\ GW c /\ GV c /\ GT c /\ GQ c /\ vH c
abbrev CD (c : Cht) : Prop := (BA c).length = (BA c).length
abbrev CE (c : Cht) : Prop := ∀ (i : Nat), i < (BA c).length -> gD (BA c) i = gD (BA c) i
abbrev K5 (a : Nat) (c : Cht) : Prop := a <= c.ns.length /\ (DA c a).q = []
abbrev BIF (a : Nat) : Prop := (0 : Int) <= (↑a : Int)
abbrev BIH (a : Nat) (c : Cht) : Prop := BIF a /\ (↑a : Int) < (↑(BA c).length : Int)
abbrev BEF (a : Nat) (c : Cht) : Prop := (0 : Int) <= (0 : Int) /\ BIF a /\ (↑a : Int) <= (↑(BA c).length : Int)
abbrev BFR (c : Cht) (a : IJ) (a1 : Nat) : Prop := gD (BA c) a.i = gD (BA c) a1
abbrev BHY (a : Nat) : Nat := a - Int.toNat (0 : Int)
abbrev BFA (a : IJ) (c : Cht) (a1 : Nat) : Prop := (List.take a.i (BA c)).length = BHY a1
abbrev ASK (i : Nat) (a : IJ) (c : Cht) : Prop := i < (List.take a.i (BA c)).length
abbrev B6 (a : IJ) (c : Cht) (i : Nat) : Int := gD (List.take a.i (BA c)) i
abbrev ASX (a : IJ) (c : Cht) : Prop := ∀ (i : Nat), ASK i a c -> B6 a c i = gD (BA c) (Int.toNat (0 : Int) + i)
abbrev BGO (a : IJ) (a1 : Nat) : Prop := (↑a.i : Int) = (↑(BHY a1) : Int)
abbrev BCQ (a : IJ) : Prop := (↑a.j : Int) = (0 : Int)
abbrev AZO (c : Cht) (a : IJ) (a1 : Nat) : Prop := (DA c a.i).la = (DA c a1).la
abbrev BAU (a : IJ) (a1 : Nat) : Prop := (↑a.i : Int) = (↑a1 : Int)
abbrev Bl (c : Cht) (a : Nat) : Nat := c.ns.length - a
abbrev BIO (a : IJ) (c : Cht) (a1 : Nat) : Prop := a.i < c.ns.length /\ c.ns.length - a.i = Bl c a1 /\ a.j <= a.i /\ ∀ (t : Nat), t < a.j -> fwP c (DA c a.i).la (gD (BA c) a.i) (gD (BA c) t) = false
abbrev dH (a : IJ) (c : Cht) (a1 : Nat) : Prop := BIO a c a1 /\ (DA c a.i).q = []
abbrev AJO (a : IJ) : Bool := decide ((↑a.j : Int) < (↑a.i : Int))
abbrev AJT (a : IJ) (c : Cht) : Prop := (0 : Int) <= (↑a.j : Int) /\ (↑a.j : Int) < (↑(List.take a.i (BA c)).length : Int)
abbrev JZ (a : IJ) (c : Cht) : Int := gD (List.take a.i (BA c)) a.j
abbrev Q4 (c : Cht) (a : IJ) : Bool := decide ((gD c.ns (JZ a c).toNat).mi > (DA c a.i).la)
abbrev Zr (a : IJ) (c : Cht) : Pr := dPr (DVal.agg [FT (JZ a c), DVal.v (Value.int IntKind.i64 (gD (BA c) a.i))])
abbrev cU (a : IJ) (c : Cht) : Int := (Zr a c).a
abbrev aC (a : IJ) (c : Cht) : Int := (Zr a c).b
abbrev dZ (c : Cht) : List Mk := AE (AH c).c.ms.length λ (i : Nat) => gD (AH c).c.ms i
abbrev QF (c : Cht) : Nat := (dZ c).length
abbrev V1 (c : Cht) : Prop := QF c = (AH c).c.ms.length
abbrev AER (c : Cht) (i : Nat) : Mk := gD (dZ c) i
abbrev ABH (c : Cht) (i : Nat) : Int := (AER c i).pl
abbrev R3 (c : Cht) (i : Nat) : Int := (AER c i).ht
abbrev AKB (c : Cht) : Prop := ∀ (i : Nat), i < QF c -> ABH c i = (gD (AH c).c.ms i).pl /\ R3 c i = (gD (AH c).c.ms i).ht
abbrev PW (c : Cht) : List Nt := AE (AH c).c.ns.length λ (i : Nat) => gD (AH c).c.ns i
abbrev LZ (c : Cht) : Nat := (PW c).length
abbrev AKL (c : Cht) : Prop := LZ c = (AH c).c.ns.length
abbrev AAQ (i : Nat) (c : Cht) : Prop := i < LZ c
abbrev Xu (c : Cht) (i : Nat) : Nt := gD (PW c) i
abbrev Cl (c : Cht) (i : Nat) : Int := (Xu c i).mi
abbrev AKZ (c : Cht) (i : Nat) : Span := (Xu c i).t
abbrev R6 (c : Cht) (i : Nat) : Int := (AKZ c i).lo
abbrev W5 (c : Cht) (i : Nat) : Int := (AKZ c i).hi
abbrev ALA (c : Cht) (i : Nat) : Span := (Xu c i).s
abbrev AEZ (c : Cht) (i : Nat) : Int := (ALA c i).lo
abbrev AKC (c : Cht) (i : Nat) : Int := (ALA c i).hi
abbrev ADK (c : Cht) : Prop := ∀ (i : Nat), AAQ i c -> Cl c i = (gD (AH c).c.ns i).mi /\ R6 c i = ZT c i /\ W5 c i = Bs c i /\ AEZ c i = Bm c i /\ AKC c i =
 Cs c i
abbrev AFR (c : Cht) (n : Int) : Bool := hasN (PW c) n
abbrev X7 (c : Cht) : Prop := ∀ (n : Int), AFR c n = hasN (AH c).c.ns n
abbrev dM (c : Cht) (n : Int) : Nt := ntOf (PW c) n
abbrev ADT (c : Cht) (n : Int) : Int := (dM c n).mi
abbrev AAS (c : Cht) (n : Int) : Span := (dM c n).t
abbrev ADB (c : Cht) (n : Int) : Int := (AAS c n).lo
abbrev ABD (c : Cht) (n : Int) : Int := (AAS c n).hi
abbrev U5 (c : Cht) (n : Int) : Span := (dM c n).s
abbrev AKG (c : Cht) (n : Int) : Int := (U5 c n).lo
abbrev Z8 (c : Cht) (n : Int) : Int := (U5 c n).hi
abbrev AHR (c : Cht) : Prop := ∀ (n : Int), ADT c n = (ntOf (AH c).c.ns n).mi /\ ADB c n = (ntOf (AH c).c.ns n).t.lo /\ ABD c n = (ntOf (AH c).c.ns n).t.hi /\ AKG c n = (ntOf (AH
 c).c.ns n).s.lo /\ Z8 c n = (ntOf (AH c).c.ns n).s.hi
abbrev ACH (c : Cht) : Prop := QF c <= (40 : Nat)
abbrev AEP (a : IJ) (c : Cht) : Prop := ((0 : Int) <= JZ a c /\ JZ a c < (↑c.ns.length : Int)) /\ (Q4 c a = true -> cU a c = JZ a c /\ aC a c = gD (BA c) a.i /\ EV c /\
 EX c /\ FA c /\ FL c /\ FJ c /\ V1 c /\ AKB c /\ AKL c /\ ADK c /\ EQ /\ AT = AT /\ X7 c /\ EB c /\ AHR c /\ EV c /\ EX c /\ FA c /\ FL
 c /\ FJ c /\ (AH c).c.ms.length = QF c /\ (∀ (i : Nat), H3 i c -> (gD (AH c).c.ms i).pl = ABH c i /\ (gD (AH c).c.ms i).ht = R3 c i) /\ (AH c).c.ns.length = LZ c /\ (∀ (i : Nat),
 N3 i c -> (gD (AH c).c.ns i).mi = Cl c i /\ ZT c i = R6 c i /\ Bs c i = W5 c i /\ Bm c i = AEZ c i /\ Cs c i = AKC c i) /\ EQ /\ AT = AT /\ (∀ (n : Int),
 hasN (AH c).c.ns n = AFR c n) /\ EB c /\ (∀ (n : Int), (ntOf (AH c).c.ns n).mi = ADT c n /\ (ntOf (AH c).c.ns n).t.lo = ADB c n /\ (ntOf (AH c).c.ns n).t.hi = ABD c n /\ (ntOf (AH
 c).c.ns n).s.lo = AKG c n /\ (ntOf (AH c).c.ns n).s.hi = Z8 c n) /\ (((0 : Int) <= cU a c /\ cU a c < (↑(LZ c) : Int)) /\ (0 : Int) <= aC a c /\ aC a c < (↑(LZ c) : Int))
 /\ (ACH c /\ LZ c <= (20 : Nat)) /\ ∀ (i : Nat), AAQ i c -> (0 : Int) <= Cl c i /\ Cl c i < (↑(QF c) : Int))
abbrev AFL (c : Cht) : Cht := Cht.mk (AH c).c.p (AH c).c.base (AH c).c.scale (AH c).c.off (dZ c) (PW c)
abbrev AGW (c : Cht) (a : IJ) : Bool := bif Q4 c a then PI (AFL c) (Zr a c) else false
abbrev AIV (c : Cht) (a : IJ) : Prop := (0 : Int) <= gD (BA c) a.i /\ gD (BA c) a.i < (↑c.ns.length : Int)
abbrev Q9 : Prop := (2 : Nat) = (2 : Nat)
abbrev ACU : Prop := BEW /\ (Kc -> Q9)
abbrev aV (c : Cht) (a : Nat) : FwS := DA c (Ra a)
abbrev eF (c : Cht) (a : Nat) : List Int := (aV c a).q
abbrev NA (c : Cht) (a : Nat) : Nat := (eF c a).length
abbrev Y5 (c : Cht) (a : Nat) : Prop := NA c a = (1 : Nat)
abbrev AHW (c : Cht) (a : Nat) : List Pr := (aV c a).r
abbrev QX (c : Cht) (a : Nat) : Nat := (AHW c a).length
abbrev ABE (c : Cht) (a : Nat) : Prop := QX c a = (1 : Nat)
abbrev Zg (c : Cht) (a : Nat) : Int := (aV c a).la
abbrev Zw (c : Cht) (a : IJ) : Int := IntKind.i64.wrap ((gD c.ns (gD (BA c) a.i).toNat).mi - (1 : Int))
abbrev ADO (c : Cht) (a : Nat) (a1 : IJ) : Prop := Zg c a = Zw c a1
abbrev Cd (a : Nat) (a1 : IJ) : Prop := (↑a : Int) = (↑a1.i : Int)
abbrev bN (i : Nat) (c : Cht) (a : Nat) : Prop := i < NA c a
abbrev YM (c : Cht) (a : Nat) (i : Nat) : Int := gD (eF c a) i
abbrev aE (i : Nat) (c : Cht) (a : Nat) : Prop := i < QX c a
abbrev X2 (c : Cht) (a : Nat) (i : Nat) : Pr := gD (AHW c a) i
abbrev Cv (c : Cht) (a : Nat) (i : Nat) : Int := (X2 c a i).a
abbrev Ar (c : Cht) (a : Nat) (i : Nat) : Int := (X2 c a i).b
abbrev S7 (c : Cht) (a : Nat) (a1 : Nat) : Prop := Bl c a = Bl c a1
abbrev Bz (a : Nat) (c : Cht) (a1 : Nat) : Prop := a < c.ns.length /\ S7 c a a1 /\ (1 : Nat) <= NA c a
abbrev AJF (c : Cht) (a : IJ) (a1 : IJ) : Prop := gD (BA c) a.i = gD (BA c) a1.i
abbrev N7 (a : IJ) (c : Cht) (a1 : IJ) : Prop := (List.take a.i (BA c)).length = (List.take a1.i (BA c)).length
abbrev Q0 (a : IJ) (c : Cht) (a1 : IJ) : Prop := ∀ (i : Nat), ASK i a c -> B6 a c i = B6 a1 c i
abbrev Cm (a : IJ) (a1 : IJ) : Prop := (↑a.i : Int) = (↑a1.i : Int)
abbrev AHU (a : IJ) (a1 : IJ) : Prop := (↑a.j : Int) = IntKind.i64.wrap ((↑a1.j : Int) + (1 : Int))
abbrev AGD (c : Cht) (a : IJ) (a1 : IJ) : Prop := (DA c a.i).la = (DA c a1.i).la
abbrev P3 (c : Cht) (a : IJ) : Nat := c.ns.length - a.j
abbrev AIR (c : Cht) (a : IJ) (a1 : IJ) : Prop := P3 c a < P3 c a1
abbrev AJS (c : Cht) (a : Nat) (a1 : IJ) : Prop := Zg c a = (DA c a1.i).la
abbrev ABZ (a : Nat) (c : Cht) (a1 : Nat) : Prop := a < c.ns.length /\ S7 c a a1 /\ eF c a = []
abbrev AJE (c : Cht) (a : Nat) (a1 : Nat) : Prop := (DA c a).la = Zg c a1
abbrev O5 (c : Cht) (a : Nat) (a1 : Nat) : Prop := Bl c a < Bl c a1
abbrev W8 (c : Cht) (a : Nat) (a1 : Nat) : Prop := (DA c a).q.length = NA c a1
abbrev U2 (c : Cht) (a : Nat) (a1 : Nat) : Prop := (DA c a).r.length = QX c a1
abbrev U4 (a : Nat) (c : Cht) : Prop := a <= c.ns.length /\ (1 : Nat) <= (DA c a).q.length
abbrev dL (c : Cht) (a : Nat) : Prop := ∀ (a_1 : Nat), Bz a_1 c a -> ∃ (a_3 : Nat), (BG /\ W8 c a_3 a_1 /\ BG /\ U2 c a_3 a_1 /\ CD c /\ CE c /\ AJE c a_3 a_1 /\ CD
 c /\ CE c /\ FI c /\ wZ a_3 a_1 /\ c.p.lo = c.p.lo /\ c.p.hi = c.p.hi /\ c.base = c.base /\ c.scale = c.scale /\ c.off = c.off /\ GW c /\ GV c /\ GT c /\ GQ c /\ EV c /\ EX c /\
 FA c /\ FL c /\ FJ c /\ HT c /\ HP c /\ HN c /\ HU c /\ EQ /\ AT = AT /\ HY c /\ EB c /\ HL c /\ W8 c a_3 a_1 /\ (∀ (i : Nat), i < (DA c a_3).q.length -> gD
 (DA c a_3).q i = YM c a_1 i) /\ U2 c a_3 a_1 /\ ∀ (i : Nat), i < (DA c a_3).r.length -> (gD (DA c a_3).r i).a = Cv c a_1 i /\ (gD (DA c a_3).r i).b = Ar c a_1 i) /\ U4 a_3 c /\ O5
 c a_3 a
abbrev V2 (c : Cht) : Prop := (eT c).q.length = (0 : Nat)
abbrev AFQ (c : Cht) : Prop := (eT c).r.length = (0 : Nat)
abbrev T3 (c : Cht) (a : IJ) (a1 : Nat) : Prop := (DA c a.i).q.length = (DA c a1).q.length
abbrev X0 (c : Cht) (a : IJ) (a1 : Nat) : Prop := (DA c a.i).r.length = (DA c a1).r.length
abbrev Xt (i : Nat) (c : Cht) (a : IJ) : Prop := i < (DA c a.i).q.length
abbrev Zn (i : Nat) (c : Cht) (a : IJ) : Prop := i < (DA c a.i).r.length
abbrev QU (c : Cht) (a : IJ) (i : Nat) : Int := (gD (DA c a.i).r i).a
abbrev QV (c : Cht) (a : IJ) (i : Nat) : Int := (gD (DA c a.i).r i).b
abbrev dF (a : IJ) (c : Cht) (a1 : Nat) : Prop := BIO a c a1 /\ (1 : Nat) <= (DA c a.i).q.length
abbrev Wy (c : Cht) (a : IJ) : Nat := (DA c a.i).q.length + (1 : Nat)
abbrev Yi (c : Cht) (a : IJ) : Nat := (DA c a.i).r.length + (1 : Nat)
abbrev AIQ (c : Cht) (a : Nat) (a1 : IJ) : Prop := NA c a = Wy c a1
abbrev V9 (c : Cht) (a : Nat) (a1 : IJ) : Prop := QX c a = Yi c a1
abbrev ABO (i : Nat) (c : Cht) (a : IJ) : Bool := decide (Zn i c a)
abbrev ABF (c : Cht) (a : IJ) (a1 : IJ) : Prop := (DA c a.i).q.length = (DA c a1.i).q.length
abbrev R2 (c : Cht) (a : IJ) (a1 : IJ) : Prop := (DA c a.i).r.length = (DA c a1.i).r.length
abbrev AEA (c : Cht) (a : Nat) (a1 : IJ) : Prop := NA c a = (DA c a1.i).q.length
abbrev ACF (c : Cht) (a : Nat) (a1 : IJ) : Prop := QX c a = (DA c a1.i).r.length
abbrev ABA (c : Cht) (a : Nat) (j : Nat) : Pr := gD (DA c a).r (I7 j)
abbrev cT (c : Cht) : List Int := AE (eT c).q.length λ (i : Nat) => gD (eT c).q i
abbrev bS (c : Cht) : Nat := (cT c).length
abbrev Bf (c : Cht) : Dk := Xe (DkZ.mk (Dk.mk (AFL c) (AH c).st (AH c).sp) (cT c))
abbrev MQ (c : Cht) : Cht := (Bf c).c
abbrev YL (c : Cht) : List Nt := (MQ c).ns
abbrev bY (c : Cht) (n : Int) : Nt := ntOf (YL c) n
abbrev AHO (c : Cht) (n : Int) : Span := (bY c n).t
abbrev AAW (c : Cht) (n : Int) : Span := (bY c n).s
abbrev bQ (c : Cht) : Span := (MQ c).p
abbrev AGC (c : Cht) : Int := (bQ c).lo
abbrev AAF (c : Cht) : Prop := AGC c = AGC c
abbrev Q6 (c : Cht) : Int := (bQ c).hi
abbrev R7 (c : Cht) : Prop := Q6 c = Q6 c
abbrev Za (c : Cht) : Int := (MQ c).base
abbrev AHZ (c : Cht) : Prop := Za c = Za c
abbrev aG (c : Cht) : Int := (MQ c).scale
abbrev ACC (c : Cht) : Prop := aG c = aG c
abbrev Xa (c : Cht) : Int := (MQ c).off
abbrev Y8 (c : Cht) : Prop := Xa c = Xa c
abbrev ADS (c : Cht) : List Mk := (MQ c).ms
abbrev ZG (c : Cht) : Nat := (ADS c).length
abbrev bI (c : Cht) (i : Nat) : Mk := gD (ADS c) i
abbrev Zb (c : Cht) : List Mk := AE (ZG c) λ (i : Nat) => bI c i
abbrev MR (c : Cht) : Nat := (Zb c).length
abbrev ADG (c : Cht) (i : Nat) : Mk := gD (Zb c) i
abbrev Z7 (c : Cht) (i : Nat) : Int := (ADG c i).pl
abbrev AGV (c : Cht) (i : Nat) : Int := (bI c i).pl
abbrev R8 (c : Cht) (i : Nat) : Int := (ADG c i).ht
abbrev ACY (c : Cht) (i : Nat) : Int := (bI c i).ht
abbrev Bv (c : Cht) : Nat := (YL c).length
abbrev Ct (c : Cht) (i : Nat) : Nt := gD (YL c) i
abbrev QT (c : Cht) : List Nt := AE (Bv c) λ (i : Nat) => Ct c i
abbrev Zd (c : Cht) : Nat := (QT c).length
abbrev Yt (c : Cht) (i : Nat) : Nt := gD (QT c) i
abbrev ABU (c : Cht) (i : Nat) : Int := (Yt c i).mi
abbrev AFO (c : Cht) (i : Nat) : Int := (Ct c i).mi
abbrev V4 (c : Cht) (i : Nat) : Span := (Yt c i).t
abbrev AFY (c : Cht) (i : Nat) : Int := (V4 c i).lo
abbrev O3 (c : Cht) (i : Nat) : Span := (Ct c i).t
abbrev ABJ (c : Cht) (i : Nat) : Int := (O3 c i).lo
abbrev N9 (c : Cht) (i : Nat) : Int := (V4 c i).hi
abbrev T4 (c : Cht) (i : Nat) : Int := (O3 c i).hi
abbrev AGO (c : Cht) (i : Nat) : Span := (Yt c i).s
abbrev AKM (c : Cht) (i : Nat) : Int := (AGO c i).lo
abbrev ABS (c : Cht) (i : Nat) : Span := (Ct c i).s
abbrev V5 (c : Cht) (i : Nat) : Int := (ABS c i).lo
abbrev Y1 (c : Cht) (i : Nat) : Int := (AGO c i).hi
abbrev ABW (c : Cht) (i : Nat) : Int := (ABS c i).hi
abbrev ACM (c : Cht) (i : Nat) : Bool := (Bf c).sp i
abbrev X9 (c : Cht) : Prop := ∀ (i : Nat), i < (40 : Nat) -> ACM c i = ACM c i
abbrev Xd (c : Cht) (n : Int) : Bool := hasN (QT c) n
abbrev eQ (c : Cht) (n : Int) : Nt := ntOf (QT c) n
abbrev O8 (c : Cht) (n : Int) : Int := (eQ c n).mi
abbrev AGI (c : Cht) (n : Int) : Span := (eQ c n).t
abbrev O4 (c : Cht) (n : Int) : Int := (AGI c n).lo
abbrev AAL (c : Cht) (n : Int) : Int := (AGI c n).hi
abbrev AEC (c : Cht) (n : Int) : Span := (eQ c n).s
abbrev ADA (c : Cht) (n : Int) : Int := (AEC c n).lo
abbrev AGG (c : Cht) (n : Int) : Int := (AEC c n).hi
abbrev Y2 (c : Cht) : Prop := (H7 c).q.length = (0 : Nat)
abbrev AEJ (c : Cht) : Prop := (H7 c).r.length = (0 : Nat)
abbrev AIX (c : Cht) : Prop := ∀ (a : One), True -> (bS c = (eT c).q.length /\ (∀ (i : Nat), i < bS c -> gD (cT c) i = gD (eT c).q i) /\ EV c /\ EX c /\ FA c /\ FL c /\
 FJ c /\ V1 c /\ AKB c /\ AKL c /\ ADK c /\ EQ /\ AT = AT /\ X7 c /\ EB c /\ AHR c /\ AT = AT /\ (∀ (n : Int), hasN (AH c).c.ns n = hasN (YL c) n) /\ (∀ (n : Int),
 (AH c).st n = (Bf c).st n) /\ (∀ (n : Int), (ntOf (AH c).c.ns n).mi = (bY c n).mi /\ (ntOf (AH c).c.ns n).t.lo = (AHO c n).lo /\ (ntOf (AH c).c.ns n).t.hi = (AHO c n).hi /\ (ntOf (AH
 c).c.ns n).s.lo = (AAW c n).lo /\ (ntOf (AH c).c.ns n).s.hi = (AAW c n).hi) /\ bS c < (4611686018427387904 : Nat) /\ ACH c) /\ (AAF c /\ R7 c /\ AHZ c /\ ACC c /\ Y8 c /\
 MR c = ZG c /\ (∀ (i : Nat), i < MR c -> Z7 c i = AGV c i /\ R8 c i = ACY c i) /\ Zd c = Bv c /\ (∀ (i : Nat), i < Zd c -> ABU c i = AFO c i /\
 AFY c i = ABJ c i /\ N9 c i = T4 c i /\ AKM c i = V5 c i /\ Y1 c i = ABW c i) /\ X9 c /\ AT = AT /\ (∀ (n : Int), Xd c n = hasN (AH c).c.ns n) /\ EB c
 /\ (∀ (n : Int), O8 c n = (ntOf (AH c).c.ns n).mi /\ O4 c n = (ntOf (AH c).c.ns n).t.lo /\ AAL c n = (ntOf (AH c).c.ns n).t.hi /\ ADA c n = (ntOf (AH c).c.ns n).s.lo /\ AGG c n = (ntOf
 (AH c).c.ns n).s.hi) /\ AAF c /\ R7 c /\ AHZ c /\ ACC c /\ Y8 c /\ ZG c = MR c /\ (∀ (i : Nat), i < ZG c -> AGV c i = Z7 c i /\ ACY c i = R8 c i) /\
 Bv c = Zd c /\ (∀ (i : Nat), i < Bv c -> AFO c i = ABU c i /\ ABJ c i = AFY c i /\ T4 c i = N9 c i /\ V5 c i = AKM c i /\ ABW c i = Y1 c i) /\
 X9 c /\ AT = AT /\ (∀ (n : Int), hasN (AH c).c.ns n = Xd c n) /\ EB c /\ (∀ (n : Int), (ntOf (AH c).c.ns n).mi = O8 c n /\ (ntOf (AH c).c.ns n).t.lo = O4 c n /\ (ntOf (AH c).c.ns
 n).t.hi = AAL c n /\ (ntOf (AH c).c.ns n).s.lo = ADA c n /\ (ntOf (AH c).c.ns n).s.hi = AGG c n) /\ (1 : Nat) <= MR c /\ MR c <= (40 : Nat) /\ ∀ (j : Int), Xd c j = true -> (0 : Int) <=
 j /\ j < (↑(MR c) : Int)) /\ bif !(AU (Dk.mk (Cht.mk (bQ c) (Za c) (aG c) (Xa c) (Zb c) (QT c)) (AH c).st (Bf c).sp)).snd then Y2 c /\ Y2 c /\
 AEJ c /\ AEJ c /\ (H7 c).e = (6 : Int) else (H7 c).q.length = (eT c).q.length /\ (∀ (i : Nat), i < (H7 c).q.length -> gD (H7 c).q i = gD (eT c).q i) /\ (H7 c).r.length = (eT c).r.length /\ (∀ (i : Nat), i <
 (H7 c).r.length -> (gD (H7 c).r i).a = (gD (eT c).r i).a /\ (gD (H7 c).r i).b = (gD (eT c).r i).b) /\ (H7 c).e = (0 : Int)
theorem CXT (c : Cht) : (CSU c) = ((c.p.lo = c.p.lo /\ c.p.hi = c.p.hi /\ c.base = c.base /\ c.scale = c.scale /\ c.off = c.off /\ BVN c /\ BRL c /\ BPT c /\ BBP c /\ (vO c < (4611686018427387904 : Nat)
 /\ aP c < (4611686018427387904 : Nat)) /\ AK (G9 c) = (0 : Int)) /\ ((∃ (a : One), (BG /\ GX /\ FI c /\ Int.ofNat (0 : Nat) = Int.ofNat (0 : Nat) /\ c.p.lo = c.p.lo /\ c.p.hi = c.p.hi /\ c.base =
 c.base /\ c.scale = c.scale /\ c.off = c.off /\ GW c /\ GV c /\ GT c /\ GQ c /\ (AH c).c.p.lo = (AXN c).lo /\ (AH c).c.p.hi = (AXN c).hi /\ (AH c).c.base = (TL c).base /\ (AH
 c).c.scale = (TL c).scale /\ (AH c).c.off = (TL c).off /\ (AH c).c.ms.length = (APZ c).length /\ (∀ (i : Nat), H3 i c -> (gD (AH c).c.ms i).pl = (AWX c i).pl /\ (gD (AH c).c.ms i).ht =
 (AWX c i).ht) /\ (AH c).c.ns.length = (Rc c).length /\ (∀ (i : Nat), N3 i c -> (gD (AH c).c.ns i).mi = (yD c i).mi /\ ZT c i = (BFW c i).lo /\ Bs c i = (BFW c i).hi /\ Bm
 c i = (BDG c i).lo /\ Cs c i = (BDG c i).hi) /\ EQ /\ AT = AT /\ (∀ (n : Int), hasN (AH c).c.ns n = hasN (Rc c) n) /\ (∀ (n : Int), (AH c).st n = (AZD c).st n) /\ ∀ (n : Int), (ntOf (AH
 c).c.ns n).mi = (sZ c n).mi /\ (ntOf (AH c).c.ns n).t.lo = (AQE c n).lo /\ (ntOf (AH c).c.ns n).t.hi = (AQE c n).hi /\ (ntOf (AH c).c.ns n).s.lo = (ASL c n).lo /\ (ntOf (AH c).c.ns n).s.hi =
 (ASL c n).hi) /\ True) /\ (∀ (a : One), True -> bif decide ((↑(0 : Nat) : Int) < (↑c.ns.length : Int)) then BIE /\ ∃ (a : Nat), (BG /\ a = (1 : Nat) /\ FI c /\ (↑a : Int) = IntKind.i64.wrap ((↑(0 : Nat) :
 Int) + (1 : Int)) /\ c.p.lo = c.p.lo /\ c.p.hi = c.p.hi /\ c.base = c.base /\ c.scale = c.scale /\ c.off = c.off /\ GW c /\ GV c /\ GT c /\ GQ c /\ EV c /\ EX c /\ FA c /\ FL c /\
 FJ c /\ HT c /\ HP c /\ HN c /\ HU c /\ EQ /\ AT = AT /\ HY c /\ EB c /\ HL c /\ a = (1 : Nat) /\ ∀ (i : Nat), i < a -> (↑i : Int) = (↑(0 : Nat) : Int)) /\ vU a c /\
 zU a < (60 : Nat) else False) /\ ∀ (a : Nat), vU a c -> bif yJ a c then ((a = a /\ ((0 : Nat) < a -> A5)) /\ zJ /\ tP /\ Ra a <= (9223372036854775807 : Nat) /\ Ra a * (8 : Nat) <=
 (140737488355328 : Nat)) /\ ∃ (a_2 : Nat), (BG /\ AQN a_2 a /\ FI c /\ wZ a_2 a /\ c.p.lo = c.p.lo /\ c.p.hi = c.p.hi /\ c.base = c.base /\ c.scale = c.scale /\ c.off = c.off /\ GW c /\ GV c /\
 GT c /\ GQ c /\ EV c /\ EX c /\ FA c /\ FL c /\ FJ c /\ HT c /\ HP c /\ HN c /\ HU c /\ EQ /\ AT = AT /\ HY c /\ EB c /\ HL c /\ AQN a_2 a
 /\ ∀ (i : Nat), i < a_2 -> (↑i : Int) = bif decide (i < a) then (↑i : Int) else (↑a : Int)) /\ vU a_2 c /\ zU a_2 < zU a else ∃ (a_2 : One), (BG /\ c.ns.length = a /\ c.p.lo = c.p.lo /\ c.p.hi = c.p.hi /\
 c.base = c.base /\ c.scale = c.scale /\ c.off = c.off /\ GW c /\ GV c /\ GT c /\ GQ c /\ EV c /\ EX c /\ FA c /\ FL c /\ FJ c /\ HT c /\ HP c /\ HN c /\ HU c
 /\ EQ /\ AT = AT /\ HY c /\ EB c /\ HL c /\ c.ns.length = a /\ ∀ (i : Nat), i < c.ns.length -> (↑i : Int) = (↑i : Int)) /\ AWV c) /\ ∀ (a : One), AWV c -> ((BG /\ AWE c /\ AWE c /\
 (∀ (i : Nat), AZN i c -> xG c i = (↑i : Int)) /\ c.p.lo = c.p.lo /\ c.p.hi = c.p.hi /\ c.base = c.base /\ c.scale = c.scale /\ c.off = c.off /\ BVN c /\ BRL c /\ BPT c /\ BBP c /\ c.p.lo = c.p.lo /\
 c.p.hi = c.p.hi /\ c.base = c.base /\ c.scale = c.scale /\ c.off = c.off /\ c.ms.length = vO c /\ (∀ (i : Nat), i < c.ms.length -> (gD c.ms i).pl = BPO c i /\ (gD c.ms i).ht = BUN c i) /\ c.ns.length = aP c /\
 (∀ (i : Nat), i < c.ns.length -> (gD c.ns i).mi = BCW c i /\ (gD c.ns i).t.lo = BHJ c i /\ (gD c.ns i).t.hi = BIY c i /\ (gD c.ns i).s.lo = ATZ c i /\ (gD c.ns i).s.hi = AVH c i) /\ By c <= (12 :
 Nat) /\ By c < (1073741824 : Nat) /\ ∀ (i : Nat), AZN i c -> (0 : Int) <= xG c i /\ xG c i < (↑(aP c) : Int)) /\ ∃ (a : One), ((BA c).length = c.ns.length /\ (0 : Nat) + c.ns.length <= By c /\
 (∀ (j : Nat), j < (BA c).length -> gD (BA c) j = gD (stM (IC (G9 c)) (L7 c)) (I7 j)) /\ SU c) /\ True) /\ ∀ (a : One), True -> ((∃ (a : Nat), (BG /\ GX /\ BG /\ GX /\ CD
 c /\ CE c /\ (DA c a).la = (-1 : Int) /\ CD c /\ CE c /\ (↑c.ns.length : Int) = (↑(BA c).length : Int) /\ (↑a : Int) = (0 : Int) /\ SU c) /\ K5 a c) /\ (∀ (a : Nat), K5 a c -> bif yJ a
 c then (BIH a c /\ BEF a c /\ (∃ (a_2 : IJ), (BFR c a_2 a /\ BFA a_2 c a /\ ASX a_2 c /\ BGO a_2 a /\ BCQ a_2 /\ BG /\ GX /\ BG /\ GX /\ CD c /\ CE c /\ AZO
 c a_2 a /\ CD c /\ CE c /\ FI c /\ BAU a_2 a /\ SU c) /\ dH a_2 c a) /\ ∀ (a_2 : IJ), dH a_2 c a -> bif AJO a_2 then AJT a_2 c /\ AEP a_2 c /\ bif AGW c a_2 then
 AIV c a_2 /\ (BIE /\ (True /\ (AUO -> (0 : Nat) = (2 : Nat))) /\ ACU /\ BCO /\ APX /\ (16 : Nat) <= (140737488355328 : Nat)) /\ ∃ (a_4 : Nat), (BG /\ Y5 c a_4 /\ BG /\ ABE c
 a_4 /\ CD c /\ CE c /\ ADO c a_4 a_2 /\ CD c /\ CE c /\ FI c /\ Cd a_4 a_2 /\ c.p.lo = c.p.lo /\ c.p.hi = c.p.hi /\ c.base = c.base /\ c.scale = c.scale /\ c.off = c.off /\ GW c /\
 GV c /\ GT c /\ GQ c /\ EV c /\ EX c /\ FA c /\ FL c /\ FJ c /\ HT c /\ HP c /\ HN c /\ HU c /\ EQ /\ AT = AT /\ HY c /\ EB c /\ HL c /\
 Y5 c a_4 /\ (∀ (i : Nat), bN i c a_4 -> YM c a_4 i = Zw c a_2) /\ ABE c a_4 /\ ∀ (i : Nat), aE i c a_4 -> Cv c a_4 i = JZ a_2 c /\ Ar c a_4 i = gD (BA c) a_2.i) /\
 Bz a_4 c a else ∃ (a_4 : IJ), (AJF c a_4 a_2 /\ N7 a_4 c a_2 /\ Q0 a_4 c a_2 /\ Cm a_4 a_2 /\ AHU a_4 a_2 /\ BG /\ GX /\ BG /\ GX /\ CD c /\ CE c /\
 AGD c a_4 a_2 /\ CD c /\ CE c /\ FI c /\ Cm a_4 a_2 /\ SU c) /\ dH a_4 c a /\ AIR c a_4 a_2 else ∃ (a_4 : Nat), (BG /\ GX /\ BG /\ GX /\ CD c /\
 CE c /\ AJS c a_4 a_2 /\ CD c /\ CE c /\ FI c /\ Cd a_4 a_2 /\ SU c) /\ ABZ a_4 c a) /\ (∀ (a_2 : Nat), ABZ a_2 c a -> ∃ (a_4 : Nat), (BG /\ GX /\ BG /\
 GX /\ CD c /\ CE c /\ AJE c a_4 a_2 /\ CD c /\ CE c /\ FI c /\ wZ a_4 a_2 /\ SU c) /\ K5 a_4 c /\ O5 c a_4 a) /\ dL c a else ∃ (a : One), (V2 c /\
 V2 c /\ AFQ c /\ AFQ c /\ vH c) /\ True) /\ ∀ (a : Nat), U4 a c -> bif yJ a c then (BIH a c /\ BEF a c /\ (∃ (a_2 : IJ), (BFR c a_2 a /\ BFA a_2 c a /\ ASX a_2 c /\
 BGO a_2 a /\ BCQ a_2 /\ BG /\ T3 c a_2 a /\ BG /\ X0 c a_2 a /\ CD c /\ CE c /\ AZO c a_2 a /\ CD c /\ CE c /\ FI c /\ BAU a_2 a /\ c.p.lo = c.p.lo /\ c.p.hi
 = c.p.hi /\ c.base = c.base /\ c.scale = c.scale /\ c.off = c.off /\ GW c /\ GV c /\ GT c /\ GQ c /\ EV c /\ EX c /\ FA c /\ FL c /\ FJ c /\ HT c /\ HP c /\ HN c /\
 HU c /\ EQ /\ AT = AT /\ HY c /\ EB c /\ HL c /\ T3 c a_2 a /\ (∀ (i : Nat), Xt i c a_2 -> gD (DA c a_2.i).q i = gD (DA c a).q i) /\ X0 c a_2 a /\ ∀ (i : Nat), Zn i c
 a_2 -> QU c a_2 i = (gD (DA c a).r i).a /\ QV c a_2 i = (gD (DA c a).r i).b) /\ dF a_2 c a) /\ ∀ (a_2 : IJ), dF a_2 c a -> bif AJO a_2 then AJT a_2 c /\ AEP a_2 c /\ bif AGW
 c a_2 then AIV c a_2 /\ ((((DA c a_2.i).q.length = (DA c a_2.i).q.length /\ ((0 : Nat) < (DA c a_2.i).q.length -> A5)) /\ zJ /\ tP /\ Wy c a_2 <= (9223372036854775807 : Nat) /\ Wy c a_2 *
 (8 : Nat) <= (140737488355328 : Nat)) /\ ((DA c a_2.i).r.length = (DA c a_2.i).r.length /\ ((0 : Nat) < (DA c a_2.i).r.length -> Q9)) /\ ACU /\ tP /\ Yi c a_2 <= (9223372036854775807 : Nat) /\
 Yi c a_2 * (16 : Nat) <= (140737488355328 : Nat)) /\ ∃ (a_4 : Nat), (BG /\ AIQ c a_4 a_2 /\ BG /\ V9 c a_4 a_2 /\ CD c /\ CE c /\ ADO c a_4 a_2 /\ CD c /\ CE c /\
 FI c /\ Cd a_4 a_2 /\ c.p.lo = c.p.lo /\ c.p.hi = c.p.hi /\ c.base = c.base /\ c.scale = c.scale /\ c.off = c.off /\ GW c /\ GV c /\ GT c /\ GQ c /\ EV c /\ EX c /\ FA c /\
 FL c /\ FJ c /\ HT c /\ HP c /\ HN c /\ HU c /\ EQ /\ AT = AT /\ HY c /\ EB c /\ HL c /\ AIQ c a_4 a_2 /\ (∀ (i : Nat), bN i c a_4 -> YM c a_4 i = bif
 decide (Xt i c a_2) then gD (DA c a_2.i).q i else Zw c a_2) /\ V9 c a_4 a_2 /\ ∀ (i : Nat), aE i c a_4 -> (Cv c a_4 i = bif ABO i c a_2 then QU c a_2 i else JZ a_2 c)
 /\ Ar c a_4 i = bif ABO i c a_2 then QV c a_2 i else gD (BA c) a_2.i) /\ Bz a_4 c a else ∃ (a_4 : IJ), (AJF c a_4 a_2 /\ N7 a_4 c a_2 /\ Q0 a_4 c a_2 /\ Cm a_4 a_2 /\
 AHU a_4 a_2 /\ BG /\ ABF c a_4 a_2 /\ BG /\ R2 c a_4 a_2 /\ CD c /\ CE c /\ AGD c a_4 a_2 /\ CD c /\ CE c /\ FI c /\ Cm a_4 a_2 /\ c.p.lo = c.p.lo /\ c.p.hi =
 c.p.hi /\ c.base = c.base /\ c.scale = c.scale /\ c.off = c.off /\ GW c /\ GV c /\ GT c /\ GQ c /\ EV c /\ EX c /\ FA c /\ FL c /\ FJ c /\ HT c /\ HP c /\ HN c /\
 HU c /\ EQ /\ AT = AT /\ HY c /\ EB c /\ HL c /\ ABF c a_4 a_2 /\ (∀ (i : Nat), Xt i c a_4 -> gD (DA c a_4.i).q i = gD (DA c a_2.i).q i) /\ R2 c a_4 a_2 /\ ∀ (i : Nat),
 Zn i c a_4 -> QU c a_4 i = QU c a_2 i /\ QV c a_4 i = QV c a_2 i) /\ dF a_4 c a /\ AIR c a_4 a_2 else ∃ (a_4 : Nat), (BG /\ AEA c a_4 a_2 /\ BG /\ ACF c
 a_4 a_2 /\ CD c /\ CE c /\ AJS c a_4 a_2 /\ CD c /\ CE c /\ FI c /\ Cd a_4 a_2 /\ c.p.lo = c.p.lo /\ c.p.hi = c.p.hi /\ c.base = c.base /\ c.scale = c.scale /\ c.off = c.off /\ GW c /\
 GV c /\ GT c /\ GQ c /\ EV c /\ EX c /\ FA c /\ FL c /\ FJ c /\ HT c /\ HP c /\ HN c /\ HU c /\ EQ /\ AT = AT /\ HY c /\ EB c /\ HL c /\
 AEA c a_4 a_2 /\ (∀ (i : Nat), bN i c a_4 -> YM c a_4 i = gD (DA c a_2.i).q i) /\ ACF c a_4 a_2 /\ ∀ (i : Nat), aE i c a_4 -> Cv c a_4 i = QU c a_2 i /\ Ar c a_4 i =
 QV c a_2 i) /\ Bz a_4 c a) /\ dL c a /\ dL c a else ∃ (a_2 : One), ((eT c).q.length = (DA c a).q.length /\ (0 : Nat) + (DA c a).q.length <= (DA c a).q.length /\ (∀ (j : Nat), j < (eT
 c).q.length -> gD (eT c).q j = gD (DA c a).q (I7 j)) /\ (eT c).r.length = (DA c a).r.length /\ (0 : Nat) + (DA c a).r.length <= (DA c a).r.length /\ (∀ (j : Nat), j < (eT c).r.length -> (gD (eT c).r j).a =
 (ABA c a j).a /\ (gD (eT c).r j).b = (ABA c a j).b) /\ vH c) /\ True) /\ AIX c /\ AIX c) := by kernel_rfl
theorem CSR (a b : Int) : dPr (.agg [FT a, .v (.int .i64 b)]) = ⟨a, b⟩ := rfl
theorem BIW (c : Cht) : Dk.mk c (AH c).st (AH c).sp = AH c := rfl
theorem CTT {c : Cht} (h : nsIn c) : ∀ i, i < c.ns.length -> 0 <= (gD c.ns i).mi /\ (gD c.ns i).mi < c.ms.length := λ i hi => h _ (List.any_eq_true.2 ⟨_, NB hi, by simp⟩)
theorem CEY (n : Nat) : (idL n).length = n := by unfold idL; simp
theorem BKN (c : Cht) : (BA c).Perm (idL c.ns.length) := AXP _ _
theorem ARG (c : Cht) : (BA c).length = c.ns.length := by rw [(BKN c).length_eq, CEY]
theorem CQQ (c : Cht) {i : Nat} (hi : i < c.ns.length) : 0 <= gD (BA c) i /\ gD (BA c) i < c.ns.length := by
 have hm : gD (BA c) i ∈ idL c.ns.length := (BKN c).mem_iff.1 (NB (by rw [ARG]; exact hi))
 obtain ⟨k, hk, e⟩ := PE hm
 rw [CEY] at hk
 have e2 : gD (idL c.ns.length) k = (k : Int) := BN _ _ _ hk
 rw [<- e, e2]; omega
theorem CTV {c : Cht} {k : Nat} (hk : k <= c.ns.length) (h : ∀ t, t < k -> fwP c (DA c k).la (gD (BA c) k) (gD (BA c) t) = false) : DA c (k + 1) = DA c k := by
 show fwN c (DA c k) _ (((BA c).take k).find? _) = _
 rw [CEG]
 ·rfl
 ·intro t ht
  have ht : t < k := by rw [List.length_take] at ht; omega
  rw [dC ht]; exact h t ht
theorem CUP {c : Cht} {k j : Nat} (hk : k <= c.ns.length) (hj : j < k) (h : ∀ t, t < j -> fwP c (DA c k).la (gD (BA c) k) (gD (BA c) t) = false) (h2 : fwP c (DA c k).la (gD (BA c) k) (gD (BA c) j) = true) : DA c (k + 1) = ⟨wr (miA c (gD (BA c) k) - 1), (DA c k).q ++ [wr (miA c (gD (BA c) k) - 1)], (DA c k).r ++ [⟨gD (BA c) j, gD (BA c) k⟩]⟩ := by
 have e : (((BA c).take k).find? (fwP c (DA c k).la (gD (BA c) k))) = some (gD ((BA c).take k) j) := CDF (by rw [List.length_take, ARG]; omega) (λ t ht => by rw [dC (by omega)]; exact h t ht) (by rw [dC hj]; exact h2)
 show fwN c (DA c k) _ (((BA c).take k).find? _) = _
 rw [e, dC hj]; rfl
theorem CNC (c : Cht) : ∀ k, (DA c k).q.length <= k /\ (DA c k).r.length = (DA c k).q.length
 | 0 => ⟨Nat.le_refl _, rfl⟩
 | k + 1 => by
  obtain ⟨h1, h2⟩ := CNC c k
  show (fwN c (DA c k) _ (((BA c).take k).find? _)).q.length <= _ /\ (fwN c (DA c k) _ (((BA c).take k).find? _)).r.length = (fwN c (DA c k) _ (((BA c).take k).find? _)).q.length
  cases ((BA c).take k).find? (fwP c (DA c k).la (gD (BA c) k)) with
  | none => exact ⟨by show (DA c k).q.length <= _; omega, h2⟩
  | some a =>
   refine ⟨?_, ?_⟩
   ·show ((DA c k).q ++ [_]).length <= _
    rw [List.length_append]; simp; omega
   ·show ((DA c k).r ++ [_]).length = ((DA c k).q ++ [_]).length
    rw [List.length_append, List.length_append]; simp; omega
theorem Zs {α : Type} [Inhabited α] (l : List α) (x : α) (i : Nat) (h : i < l.length + 1) : gD (l ++ [x]) i = bif decide (i < l.length) then gD l i else x := by
 rw [AKP]
 by_cases h2 : i < l.length
 ·simp [h2]
 ·have : i - l.length = 0 := by omega
  rw [if_neg h2, this, decide_eq_false h2]; rfl
theorem CYJ (c : Cht) (h1 : c.ms.length < 4611686018427387904 /\ c.ns.length < 4611686018427387904) (h0 : AK c = 0) (hn : 1 <= c.ns.length /\ c.ns.length <= 12) : CSU c := by
 have hl := ES h0
 have hs := Xf h0
 have hM := CTT hs.1
 have hO := ARG c
 have hR := λ i (h : i < c.ns.length) => CQQ c h
 have hF := CNC c
 rw [CXT]; delta ANE vO BVN BVP BPO BUN BRL AMR aP BPT tJ BCW BFU BHJ BIY AYO ATZ AVH BBP G9 BG GX FI GW GV GT GQ AZD TL AXN APZ H3 AWX Rc N3 yD ZT BFW Bs Bm BDG Cs EQ sZ AQE ASL AUO BEW Kc A5 zJ BCO APX BIE EV EX FA FL FJ HT HP HN HU HY EB HL vU zU yJ tP Ra AQN wZ AWV L7 By AWE AZN xG I7 vH SU CD CE K5 BIF BIH BEF BFR BHY BFA ASK B6 ASX BGO BCQ AZO BAU Bl BIO dH AJO AJT JZ Q4 Zr cU aC dZ QF V1 AER ABH R3 AKB PW LZ AKL AAQ Xu Cl AKZ R6 W5 ALA AEZ AKC ADK AFR X7 dM ADT AAS ADB ABD U5 AKG Z8 AHR ACH AEP AFL AGW AIV Q9 ACU aV eF NA Y5 AHW QX ABE Zg Zw ADO Cd bN YM aE X2 Cv Ar S7 Bz AJF N7 Q0 Cm AHU AGD P3 AIR AJS ABZ AJE O5 W8 U2 U4 dL V2 AFQ T3 X0 Xt Zn QU QV dF Wy Yi AIQ V9 ABO ABF R2 AEA ACF ABA cT bS Bf MQ YL bY AHO AAW bQ AGC AAF Q6 R7 Za AHZ aG ACC Xa Y8 ADS ZG bI Zb MR ADG Z7 AGV R8 ACY Bv Ct QT Zd Yt ABU AFO V4 AFY O3 ABJ N9 T4 AGO AKM ABS V5 Y1 ABW ACM X9 Xd eQ O8 AGI O4 AAL AEC ADA AGG Y2 AEJ AIX; simp only [CC, eq_self, implies_true, forall_const, BZ, AAT, YA, BWM, BIW, CSR]
 have hI : ∀ i, i < c.ns.length -> gD (AE c.ns.length λ i => (i : Int)) i = (i : Int) := λ i hi => BN _ _ _ hi
 have hT : ∀ k j, j < k -> gD ((BA c).take k) j = gD (BA c) j := λ k j h => dC h
 have hTl : ∀ k, k <= c.ns.length -> ((BA c).take k).length = k := λ k h => by rw [List.length_take, hO]; omega
 have pre : ∀ x ∈ [0], True := λ _ _ => trivial
 refine ⟨⟨h1, h0⟩, ⟨⟨⟨default, trivial⟩, ?_, ?_⟩, λ _ => ⟨⟨⟨hI, hn.2, by omega, ?_⟩, default, hO, Nat.le_refl _, λ _ _ => rfl⟩, ⟨⟨0, ⟨rfl, by rw [hO], rfl⟩, Nat.zero_le _, rfl⟩, ?_, ?_⟩, ?_⟩⟩⟩
 ·refine ⟨λ _ => ⟨by decide, 1, ⟨rfl, by decide, rfl, λ i hi => by omega⟩, by omega, by omega⟩, λ h => h (by omega)⟩
 ·intro a ha
  refine ⟨λ h => ⟨⟨Nat.one_pos, (λ h => by cases h), by omega, by omega⟩, a + 1, ⟨rfl, by rw [FH (by omega) (by omega)]; rfl, rfl, λ i hi => ?_⟩, by omega, by omega⟩, λ h => ⟨default, by omega, by omega⟩⟩
  by_cases h2 : i < a
  ·rw [decide_eq_true h2]; rfl
  ·rw [decide_eq_false h2]; show (i : Int) = a; omega
 ·intro i hi; rw [hI i hi]; omega
 ·rintro k ⟨hk, hq⟩
  refine ⟨λ h => ?_, λ h => ?_⟩
  ·have hk2 : k < c.ns.length := by omega
   refine ⟨⟨⟨by omega, by omega⟩, ⟨by omega, by omega, by omega⟩, ⟨⟨k, 0⟩, ⟨rfl, hTl k hk, λ i hi => ?_, rfl, rfl, rfl, rfl⟩, ⟨hk2, rfl, Nat.zero_le _, λ t ht => absurd ht (Nat.not_lt_zero _)⟩, hq⟩, ?_⟩, ?_, ?_⟩
   ·rw [hT _ _ (by have hi : i < ((BA c).take k).length := hi; rw [hTl k hk] at hi; exact hi), show Int.toNat 0 = 0 from rfl, Nat.zero_add]
   ·rintro y ⟨⟨y1, y2, y3, y4⟩, y5⟩
    have hp : ∀ j, j < y.i -> (bif decide ((gD c.ns (gD ((BA c).take y.i) j).toNat).mi > (DA c y.i).la) then PI c { a := gD ((BA c).take y.i) j, b := gD (BA c) y.i } else false) = fwP c (DA c y.i).la (gD (BA c) y.i) (gD (BA c) j) := λ j hj => by rw [hT _ _ hj]; rfl
    refine ⟨λ hj => ⟨⟨by omega, by rw [hTl _ (by omega)]; exact hj⟩, ⟨by rw [hT _ _ (by omega)]; exact hR _ (by omega), λ _ => ⟨⟨by rw [hT _ _ (by omega)]; exact hR _ (by omega), hR _ y1⟩, ⟨hl.2.1.2, hl.2.2⟩, hM⟩⟩, λ hc => ?_, λ hc => ?_⟩, λ hj => ?_⟩
    ·rw [hp _ (by omega)] at hc
     have e := CUP (by omega) (by omega) y4 hc
     rw [hT _ _ (by omega)]
     have h8 : (DA c y.i).r = [] := List.length_eq_zero_iff.1 (by rw [(hF y.i).2, y5]; rfl)
     refine ⟨hR _ y1, by decide, y.i, ?_, y1, y2, ?_⟩
     ·rw [e, y5, h8]
      refine ⟨rfl, rfl, rfl, rfl, rfl, λ i hi => ?_, rfl, λ i hi => ?_⟩
      ·have hi : i < 1 := hi
       obtain rfl : i = 0 := by omega
       rfl
      ·have hi : i < 1 := hi
       obtain rfl : i = 0 := by omega
       exact ⟨rfl, rfl⟩
     ·rw [e, y5]; exact Nat.one_pos
    ·rw [hp _ (by omega)] at hc
     have e : IntKind.i64.wrap ((y.j : Int) + 1) = ((y.j + 1 : Nat) : Int) := by rw [FH (by omega) (by omega)]; rfl
     refine ⟨⟨y.i, y.j + 1⟩, ⟨rfl, rfl, λ _ _ => rfl, rfl, e.symm, rfl, rfl⟩, ⟨⟨y1, y2, by show y.j + 1 <= y.i; omega, λ t ht => ?_⟩, y5⟩, by show _ - (y.j + 1) < _; omega⟩
     have ht : t < y.j + 1 := ht
     by_cases h2 : t = y.j
     ·subst h2; exact hc
     ·exact y4 t (by omega)
    ·have e := CTV (by omega) (λ t (ht : t < y.i) => y4 t (by omega))
     refine ⟨y.i, ?_, y1, y2, ?_⟩
     ·rw [e]; exact ⟨rfl, rfl⟩
     ·rw [e]; exact y5
   ·rintro k' ⟨g1, g2, g3⟩
    refine ⟨k' + 1, ⟨rfl, by rw [FH (by omega) (by omega)]; rfl⟩, ⟨by omega, g3⟩, by omega⟩
   ·rintro k' ⟨g1, g2, g3⟩
    refine ⟨k' + 1, ⟨rfl, rfl, rfl, by rw [FH (by omega) (by omega)]; rfl, rfl, λ _ _ => rfl, rfl, λ _ _ => ⟨rfl, rfl⟩⟩, ⟨by omega, g3⟩, by omega⟩
  ·have e : k = c.ns.length := by omega
   have h8 : (DA c k).r = [] := List.length_eq_zero_iff.1 (by rw [(hF k).2, hq]; rfl)
   subst e
   exact ⟨default, by show (DA c _).q.length = 0; rw [hq]; rfl, by show (DA c _).q.length = 0; rw [hq]; rfl, by show (DA c _).r.length = 0; rw [h8]; rfl⟩
 ·rintro k ⟨hk, hq⟩
  refine ⟨λ h => ?_, λ h => ?_⟩
  ·have hk2 : k < c.ns.length := by omega
   refine ⟨⟨⟨by omega, by omega⟩, ⟨by omega, by omega, by omega⟩, ⟨⟨k, 0⟩, ⟨rfl, hTl k hk, λ i hi => ?_, rfl, rfl, rfl, rfl, rfl, rfl, rfl, λ _ _ => rfl, rfl, λ _ _ => ⟨rfl, rfl⟩⟩, ⟨hk2, rfl, Nat.zero_le _, λ t ht => absurd ht (Nat.not_lt_zero _)⟩, hq⟩, ?_⟩, ?_⟩
   ·rw [hT _ _ (by have hi : i < ((BA c).take k).length := hi; rw [hTl k hk] at hi; exact hi), show Int.toNat 0 = 0 from rfl, Nat.zero_add]
   ·rintro y ⟨⟨y1, y2, y3, y4⟩, y5⟩
    have hp : ∀ j, j < y.i -> (bif decide ((gD c.ns (gD ((BA c).take y.i) j).toNat).mi > (DA c y.i).la) then PI c { a := gD ((BA c).take y.i) j, b := gD (BA c) y.i } else false) = fwP c (DA c y.i).la (gD (BA c) y.i) (gD (BA c) j) := λ j hj => by rw [hT _ _ hj]; rfl
    refine ⟨λ hj => ⟨⟨by omega, by rw [hTl _ (by omega)]; exact hj⟩, ⟨by rw [hT _ _ (by omega)]; exact hR _ (by omega), λ _ => ⟨⟨by rw [hT _ _ (by omega)]; exact hR _ (by omega), hR _ y1⟩, ⟨hl.2.1.2, hl.2.2⟩, hM⟩⟩, λ hc => ?_, λ hc => ?_⟩, λ hj => ?_⟩
    ·rw [hp _ (by omega)] at hc
     have e := CUP (by omega) (by omega) y4 hc
     rw [hT _ _ (by omega)]
     have h9 := hF y.i
     refine ⟨hR _ y1, ⟨⟨Nat.one_pos, (λ h => by cases h), by omega, by omega⟩, Nat.one_pos, (λ h => by cases h), by omega, by omega⟩, y.i, ?_, y1, y2, ?_⟩
     ·rw [e]
      refine ⟨by simp, by simp, rfl, rfl, by simp, λ i hi => ?_, by simp, λ i hi => ?_⟩
      ·exact Zs _ _ _ (by simpa using hi)
      ·have hi2 : i < (DA c y.i).r.length + 1 := by simpa using hi
       show (gD ((DA c y.i).r ++ [_]) i).a = _ /\ (gD ((DA c y.i).r ++ [_]) i).b = _
       rw [Zs _ _ _ hi2]
       cases decide (i < (DA c y.i).r.length) <;> exact ⟨rfl, rfl⟩
     ·rw [e]; simp
    ·rw [hp _ (by omega)] at hc
     have e : IntKind.i64.wrap ((y.j : Int) + 1) = ((y.j + 1 : Nat) : Int) := by rw [FH (by omega) (by omega)]; rfl
     refine ⟨⟨y.i, y.j + 1⟩, ⟨rfl, rfl, λ _ _ => rfl, rfl, e.symm, rfl, rfl, rfl, rfl, rfl, λ _ _ => rfl, rfl, λ _ _ => ⟨rfl, rfl⟩⟩, ⟨⟨y1, y2, by show y.j + 1 <= y.i; omega, λ t ht => ?_⟩, y5⟩, by show _ - (y.j + 1) < _; omega⟩
     have ht : t < y.j + 1 := ht
     by_cases h2 : t = y.j
     ·subst h2; exact hc
     ·exact y4 t (by omega)
    ·have e := CTV (by omega) (λ t (ht : t < y.i) => y4 t (by omega))
     refine ⟨y.i, ?_, y1, y2, ?_⟩
     ·rw [e]; exact ⟨rfl, rfl, rfl, rfl, rfl, λ _ _ => rfl, rfl, λ _ _ => ⟨rfl, rfl⟩⟩
     ·rw [e]; exact y5
   ·rintro k' ⟨g1, g2, g3⟩
    refine ⟨k' + 1, ⟨rfl, rfl, rfl, by rw [FH (by omega) (by omega)]; rfl, rfl, λ _ _ => rfl, rfl, λ _ _ => ⟨rfl, rfl⟩⟩, ⟨by omega, g3⟩, by omega⟩
  ·have e : k = c.ns.length := by omega
   subst e
   exact ⟨default, rfl, Nat.le_refl _, λ _ _ => rfl, rfl, Nat.le_refl _, λ _ _ => ⟨rfl, rfl⟩⟩
 ·have h9 := hF c.ns.length
  refine ⟨⟨λ _ => rfl, by have : (eT c).q.length <= c.ns.length := h9.1; omega, hl.2.1.2⟩, ⟨hl.2.1.1, hl.2.1.2, hs.1⟩, λ hc => ?_, λ hc => ?_⟩
  ·have hc : (AU (fwW c)).2 = false := hc
   unfold H7; rw [hc]; exact ⟨rfl, rfl, rfl, rfl, rfl⟩
  ·have hc : (AU (fwW c)).2 = true := hc
   unfold H7; rw [hc]; exact ⟨rfl, λ _ _ => rfl, rfl, λ _ _ => ⟨rfl, rfl⟩, rfl⟩
def C_insZ : Ctr := { ro := [100], α := Cht, xs := λ _ => [.d GA, .int 0, .int 0, .fn (.func PH) [] [.bptr 100 0]], L := λ c => [(100, chB c)], val := λ _ => .d (.tup []), keep := λ c => [(100, .live (chB c))] }
def CKL : List AVal -> Heap -> Option (Cht × List (Nat × Nat) × List Nat)
 | [.d _, _, _, .fn _ _ [.bptr id _]], H => match TJ H id with
  | some q => some (q, [(100, id)], [])
  | none => none
 | _, _ => none
def iz1 (c : Cht) : Shape := { α := One, dflt := default, T := λ _ => ⟨[(0, .d GA), (1, .int 0), (2, .int 0), (3, .fn (.func PH) [] [.bptr 100 0]), (8, .int 1)], [(100, .live (chB c))]⟩, inv := λ _ => True, meas := λ _ => 0 }
def CMF (c : Cht) : Ann := { ann 53 [] with E := [100], loops := λ id => if id = 1 then some [iz1 c] else none }
def CMH (c : Cht) : Prop := AZ Try.prog (CMF c) AQM (AL AQM) (C_insZ.xs c) (AG (C_insZ.L c)) (C_insZ.val c) (C_insZ.keep c) [] []
theorem CQW (c : Cht) : (CMH c) = ((∃ (a : One), ((0 : Nat) = (0 : Nat) /\ (∀ (i : Nat), i < (0 : Nat) -> false = false) /\ Int.ofNat (0 : Nat) = Int.ofNat (0 : Nat) /\ Int.ofNat (0 : Nat) = Int.ofNat (0 : Nat) /\
 Int.ofNat (1 : Nat) = Int.ofNat (((0 : Nat) + (1 : Nat)) % ((2 : Int) ^ IntKind.i64.bits).natAbs) /\ c.p.lo = c.p.lo /\ c.p.hi = c.p.hi /\ c.base = c.base /\ c.scale = c.scale /\ c.off = c.off /\ c.ms.length = c.ms.length /\ (∀
 (i : Nat), i < c.ms.length -> (gD c.ms i).pl = (gD c.ms i).pl /\ (gD c.ms i).ht = (gD c.ms i).ht) /\ c.ns.length = c.ns.length /\ ∀ (i : Nat), i < c.ns.length -> (gD c.ns i).mi = (gD c.ns i).mi /\ (gD c.ns i).t.lo = (gD c.ns
 i).t.lo /\ (gD c.ns i).t.hi = (gD c.ns i).t.hi /\ (gD c.ns i).s.lo = (gD c.ns i).s.lo /\ (gD c.ns i).s.hi = (gD c.ns i).s.hi) /\ True) /\ ∀ (a : One), True -> c.p.lo = c.p.lo /\ c.p.hi = c.p.hi /\ c.base = c.base /\ c.scale =
 c.scale /\ c.off = c.off /\ c.ms.length = c.ms.length /\ (∀ (i : Nat), i < c.ms.length -> (gD c.ms i).pl = (gD c.ms i).pl /\ (gD c.ms i).ht = (gD c.ms i).ht) /\ c.ns.length = c.ns.length /\ ∀ (i : Nat), i < c.ns.length -> (gD
 c.ns i).mi = (gD c.ns i).mi /\ (gD c.ns i).t.lo = (gD c.ns i).t.lo /\ (gD c.ns i).t.hi = (gD c.ns i).t.hi /\ (gD c.ns i).s.lo = (gD c.ns i).s.lo /\ (gD c.ns i).s.hi = (gD c.ns i).s.hi) := by kernel_rfl
theorem COI : AM Try.prog AGH (C_insZ.spec CKL) := LF C_insZ CMF [] [] CEW (λ _ => by kernel_rfl) (λ _ => AJ) (λ (c : Cht) _ => by
 show CMH c; rw [CQW]; exact ⟨⟨default, by simp; rfl, trivial⟩, λ _ _ => by simp⟩) (λ _ => NP rfl rfl) _
def C_pdqZ : Ctr := { ro := [100], α := Cht, xs := λ _ => [.d GA, .int 0, .int 0, .any, .fn (.func PH) [] [.bptr 100 0]], L := λ c => [(100, chB c)], val := λ _ => .d (.tup []), keep := λ c => [(100, .live (chB c))] }
def CJR : List AVal -> Heap -> Option (Cht × List (Nat × Nat) × List Nat)
 | [.d _, _, _, _, .fn _ _ [.bptr id _]], H => match TJ H id with
  | some q => some (q, [(100, id)], [])
  | none => none
 | _, _ => none
def pz2 (c : Cht) : Shape := { α := One, dflt := default, T := λ _ => ⟨[(0, .d GA), (1, .int 0), (2, .int 0), (3, .any), (4, .fn (.func PH) [] [.bptr 100 0]), (10, .bool true), (11, .bool true)], [(100, .live (chB c))]⟩, inv := λ _ => True, meas := λ _ => 0 }
def CJV (c : Cht) : Ann := { ann 148 [(AGH, C_insZ.spec CKL)] with E := [100], loops := λ id => if id = 2 then some [pz2 c] else none }
def CKV (c : Cht) : Prop := AZ Try.prog (CJV c) BYA (AL BYA) (C_pdqZ.xs c) (AG (C_pdqZ.L c)) (C_pdqZ.val c) (C_pdqZ.keep c) [] []
theorem CPX (c : Cht) : (CKV c) = ((∃ (a : One), ((0 : Nat) = (0 : Nat) /\ (∀ (i : Nat), i < (0 : Nat) -> false = false) /\ Int.ofNat (0 : Nat) = Int.ofNat (0 : Nat) /\ Int.ofNat (0 : Nat) = Int.ofNat (0 : Nat) /\ true
 = true /\ true = true /\ c.p.lo = c.p.lo /\ c.p.hi = c.p.hi /\ c.base = c.base /\ c.scale = c.scale /\ c.off = c.off /\ c.ms.length = c.ms.length /\ (∀ (i : Nat), i < c.ms.length -> (gD c.ms i).pl = (gD c.ms i).pl /\ (gD c.ms
 i).ht = (gD c.ms i).ht) /\ c.ns.length = c.ns.length /\ ∀ (i : Nat), i < c.ns.length -> (gD c.ns i).mi = (gD c.ns i).mi /\ (gD c.ns i).t.lo = (gD c.ns i).t.lo /\ (gD c.ns i).t.hi = (gD c.ns i).t.hi /\ (gD c.ns i).s.lo = (gD
 c.ns i).s.lo /\ (gD c.ns i).s.hi = (gD c.ns i).s.hi) /\ True) /\ ∀ (a : One), True -> ((0 : Nat) = (0 : Nat) /\ (∀ (i : Nat), i < (0 : Nat) -> false = false) /\ Int.ofNat (0 : Nat) = Int.ofNat (0 : Nat) /\ Int.ofNat (0 : Nat) =
 Int.ofNat (0 : Nat) /\ c.p.lo = c.p.lo /\ c.p.hi = c.p.hi /\ c.base = c.base /\ c.scale = c.scale /\ c.off = c.off /\ (AE c.ms.length λ (i : Nat) => gD c.ms i).length = c.ms.length /\ (∀ (i : Nat), i < (AE c.ms.length fun
 (i : Nat) => gD c.ms i).length -> (gD (AE c.ms.length λ (i : Nat) => gD c.ms i) i).pl = (gD c.ms i).pl /\ (gD (AE c.ms.length λ (i : Nat) => gD c.ms i) i).ht = (gD c.ms i).ht) /\ (AE c.ns.length λ (i : Nat) => gD
 c.ns i).length = c.ns.length /\ (∀ (i : Nat), i < (AE c.ns.length λ (i : Nat) => gD c.ns i).length -> (gD (AE c.ns.length λ (i : Nat) => gD c.ns i) i).mi = (gD c.ns i).mi /\ (gD (AE c.ns.length λ (i : Nat) => gD
 c.ns i) i).t.lo = (gD c.ns i).t.lo /\ (gD (AE c.ns.length λ (i : Nat) => gD c.ns i) i).t.hi = (gD c.ns i).t.hi /\ (gD (AE c.ns.length λ (i : Nat) => gD c.ns i) i).s.lo = (gD c.ns i).s.lo /\ (gD (AE c.ns.length λ (i
 : Nat) => gD c.ns i) i).s.hi = (gD c.ns i).s.hi) /\ c.p.lo = c.p.lo /\ c.p.hi = c.p.hi /\ c.base = c.base /\ c.scale = c.scale /\ c.off = c.off /\ c.ms.length = (AE c.ms.length λ (i : Nat) => gD c.ms i).length /\ (∀ (i :
 Nat), i < c.ms.length -> (gD c.ms i).pl = (gD (AE c.ms.length λ (i : Nat) => gD c.ms i) i).pl /\ (gD c.ms i).ht = (gD (AE c.ms.length λ (i : Nat) => gD c.ms i) i).ht) /\ c.ns.length = (AE c.ns.length λ (i : Nat) =>
 gD c.ns i).length /\ ∀ (i : Nat), i < c.ns.length -> (gD c.ns i).mi = (gD (AE c.ns.length λ (i : Nat) => gD c.ns i) i).mi /\ (gD c.ns i).t.lo = (gD (AE c.ns.length λ (i : Nat) => gD c.ns i) i).t.lo /\ (gD c.ns i).t.hi
 = (gD (AE c.ns.length λ (i : Nat) => gD c.ns i) i).t.hi /\ (gD c.ns i).s.lo = (gD (AE c.ns.length λ (i : Nat) => gD c.ns i) i).s.lo /\ (gD c.ns i).s.hi = (gD (AE c.ns.length λ (i : Nat) => gD c.ns i) i).s.hi) /\
 c.p.lo = c.p.lo /\ c.p.hi = c.p.hi /\ c.base = c.base /\ c.scale = c.scale /\ c.off = c.off /\ c.ms.length = c.ms.length /\ (∀ (i : Nat), i < c.ms.length -> (gD c.ms i).pl = (gD c.ms i).pl /\ (gD c.ms i).ht = (gD c.ms i).ht) /\
 c.ns.length = c.ns.length /\ ∀ (i : Nat), i < c.ns.length -> (gD c.ns i).mi = (gD c.ns i).mi /\ (gD c.ns i).t.lo = (gD c.ns i).t.lo /\ (gD c.ns i).t.hi = (gD c.ns i).t.hi /\ (gD c.ns i).s.lo = (gD c.ns i).s.lo /\ (gD c.ns
 i).s.hi = (gD c.ns i).s.hi) := by kernel_rfl
theorem CQO : AM Try.prog BKI (C_pdqZ.spec CJR) := LF C_pdqZ CJV [] [] CLB (λ _ => by kernel_rfl) (λ _ => AC COI AJ) (λ (c : Cht) _ => by
 show CKV c; rw [CPX]; simp only [CC, eq_self, implies_true, forall_const]; exact ⟨default, trivial⟩) (λ _ => NP rfl rfl) _
def C_sortZ : Ctr := { ro := [100], α := Cht, xs := λ _ => [.d GA, .fn (.func PH) [] [.bptr 100 0]], L := λ c => [(100, chB c)], val := λ _ => .d (.tup []), keep := λ c => [(100, .live (chB c))] }
def CEA : List AVal -> Heap -> Option (Cht × List (Nat × Nat) × List Nat)
 | [.d _, .fn _ _ [.bptr id _]], H => match TJ H id with
  | some q => some (q, [(100, id)], [])
  | none => none
 | _, _ => none
def CEL : Ann := { ann 14 [(BQY, BJO), (BKI, C_pdqZ.spec CJR)] with E := [100] }
def CFB (c : Cht) : Prop := AZ Try.prog CEL F5 (AL F5) (C_sortZ.xs c) (AG (C_sortZ.L c)) (C_sortZ.val c) (C_sortZ.keep c) [] []
theorem CHV (c : Cht) : (CFB c) = ((((0 : Int) <= IntKind.u64.wrap (↑(0 : Nat) : Int) /\ IntKind.u64.wrap (↑(0 : Nat) : Int) <= (20 : Int)) /\ (0 : Nat) = (0 : Nat) /\ (∀ (i : Nat), i < (0 : Nat) -> false = false) /\
 Int.ofNat (0 : Nat) = Int.ofNat (0 : Nat) /\ Int.ofNat (0 : Nat) = Int.ofNat (0 : Nat) /\ c.p.lo = c.p.lo /\ c.p.hi = c.p.hi /\ c.base = c.base /\ c.scale = c.scale /\ c.off = c.off /\ (AE c.ms.length λ (i : Nat) => gD c.ms
 i).length = c.ms.length /\ (∀ (i : Nat), i < (AE c.ms.length λ (i : Nat) => gD c.ms i).length -> (gD (AE c.ms.length λ (i : Nat) => gD c.ms i) i).pl = (gD c.ms i).pl /\ (gD (AE c.ms.length λ (i : Nat) => gD c.ms i)
 i).ht = (gD c.ms i).ht) /\ (AE c.ns.length λ (i : Nat) => gD c.ns i).length = c.ns.length /\ (∀ (i : Nat), i < (AE c.ns.length λ (i : Nat) => gD c.ns i).length -> (gD (AE c.ns.length λ (i : Nat) => gD c.ns i) i).mi
 = (gD c.ns i).mi /\ (gD (AE c.ns.length λ (i : Nat) => gD c.ns i) i).t.lo = (gD c.ns i).t.lo /\ (gD (AE c.ns.length λ (i : Nat) => gD c.ns i) i).t.hi = (gD c.ns i).t.hi /\ (gD (AE c.ns.length λ (i : Nat) => gD c.ns
 i) i).s.lo = (gD c.ns i).s.lo /\ (gD (AE c.ns.length λ (i : Nat) => gD c.ns i) i).s.hi = (gD c.ns i).s.hi) /\ c.p.lo = c.p.lo /\ c.p.hi = c.p.hi /\ c.base = c.base /\ c.scale = c.scale /\ c.off = c.off /\ c.ms.length = (AE
 c.ms.length λ (i : Nat) => gD c.ms i).length /\ (∀ (i : Nat), i < c.ms.length -> (gD c.ms i).pl = (gD (AE c.ms.length λ (i : Nat) => gD c.ms i) i).pl /\ (gD c.ms i).ht = (gD (AE c.ms.length λ (i : Nat) => gD c.ms i)
 i).ht) /\ c.ns.length = (AE c.ns.length λ (i : Nat) => gD c.ns i).length /\ ∀ (i : Nat), i < c.ns.length -> (gD c.ns i).mi = (gD (AE c.ns.length λ (i : Nat) => gD c.ns i) i).mi /\ (gD c.ns i).t.lo = (gD (AE
 c.ns.length λ (i : Nat) => gD c.ns i) i).t.lo /\ (gD c.ns i).t.hi = (gD (AE c.ns.length λ (i : Nat) => gD c.ns i) i).t.hi /\ (gD c.ns i).s.lo = (gD (AE c.ns.length λ (i : Nat) => gD c.ns i) i).s.lo /\ (gD c.ns
 i).s.hi = (gD (AE c.ns.length λ (i : Nat) => gD c.ns i) i).s.hi) /\ c.p.lo = c.p.lo /\ c.p.hi = c.p.hi /\ c.base = c.base /\ c.scale = c.scale /\ c.off = c.off /\ c.ms.length = c.ms.length /\ (∀ (i : Nat), i < c.ms.length ->
 (gD c.ms i).pl = (gD c.ms i).pl /\ (gD c.ms i).ht = (gD c.ms i).ht) /\ c.ns.length = c.ns.length /\ ∀ (i : Nat), i < c.ns.length -> (gD c.ns i).mi = (gD c.ns i).mi /\ (gD c.ns i).t.lo = (gD c.ns i).t.lo /\ (gD c.ns i).t.hi =
 (gD c.ns i).t.hi /\ (gD c.ns i).s.lo = (gD c.ns i).s.lo /\ (gD c.ns i).s.hi = (gD c.ns i).s.hi) := by kernel_rfl
theorem COF : AM Try.prog G8 (C_sortZ.spec CEA) := LF C_sortZ (λ _ => CEL) [] [] BXP (λ _ => by kernel_rfl) (λ _ => AC CNP (AC CQO AJ)) (λ (c : Cht) _ => by
 show CFB c; rw [CHV]; simp only [CC, eq_self, implies_true, forall_const]; rw [u64w (by omega) (by omega)]; omega) (λ _ => NP rfl rfl) _
def fz6 (c : Cht) : Shape := { α := One, dflt := default, T := λ _ => ⟨(7, .d GA) :: fw6S c 0, fwH c⟩, inv := λ _ => c.ns.length = 0, meas := λ _ => 60, first := fwR }
def fz15 (c : Cht) : Shape := { α := One, dflt := default, T := λ _ => ⟨CFO ++ [(1, .bptr 201 0), (5, .bptr 203 0), (7, .d GA), (11, .int (-1)), (41, .d GA), (42, .int 0), (43, .int 0)], fwH c⟩, inv := λ _ => c.ns.length = 0, meas := λ _ => 60 }
def CMX (c : Cht) : Ann := { ann 101 [(GR, C_open.spec dC1), (G8, C_sortZ.spec CEA), (BHZ, C_stop.spec dDkZ), (yA, C_times.spec Z1)] with loops := λ id => if id = 6 then some [fz6 c] else if id = 15 then some [fz15 c] else none }
def CIP (c : Cht) : Prop := AZ Try.prog (CMX c) TV (AL TV) [.d (XX c)] (AG []) (.tup [.d (DI (H7 c).q), .d (Cf (H7 c).r), .int (H7 c).e]) [] [] []
abbrev G3 (c : Cht) : List Mk := AE c.ms.length λ (i : Nat) => gD c.ms i
abbrev Qu (c : Cht) : Nat := (G3 c).length
abbrev AQK (c : Cht) : Prop := Qu c = c.ms.length
abbrev BHP (c : Cht) (i : Nat) : Mk := gD (G3 c) i
abbrev BDO (c : Cht) (i : Nat) : Int := (BHP c i).pl
abbrev BER (c : Cht) (i : Nat) : Int := (BHP c i).ht
abbrev ATC (c : Cht) : Prop := ∀ (i : Nat), i < Qu c -> BDO c i = (gD c.ms i).pl /\ BER c i = (gD c.ms i).ht
abbrev vN (c : Cht) : List Nt := AE c.ns.length λ (i : Nat) => gD c.ns i
abbrev Pu (c : Cht) : Nat := (vN c).length
abbrev BED (c : Cht) : Prop := Pu c = c.ns.length
abbrev Zh (c : Cht) (i : Nat) : Nt := gD (vN c) i
abbrev ADM (c : Cht) (i : Nat) : Int := (Zh c i).mi
abbrev AES (c : Cht) (i : Nat) : Span := (Zh c i).t
abbrev AAK (c : Cht) (i : Nat) : Int := (AES c i).lo
abbrev AJB (c : Cht) (i : Nat) : Int := (AES c i).hi
abbrev AGB (c : Cht) (i : Nat) : Span := (Zh c i).s
abbrev ADN (c : Cht) (i : Nat) : Int := (AGB c i).lo
abbrev ADU (c : Cht) (i : Nat) : Int := (AGB c i).hi
abbrev P2 (c : Cht) : Prop := ∀ (i : Nat), i < Pu c -> ADM c i = (gD c.ns i).mi /\ AAK c i = (gD c.ns i).t.lo /\ AJB c i = (gD c.ns i).t.hi /\ ADN c i = (gD c.ns i).s.lo /\ ADU c i =
 (gD c.ns i).s.hi
abbrev AGN (c : Cht) : Cht := Cht.mk c.p c.base c.scale c.off (G3 c) (vN c)
abbrev IM : Prop := (0 : Nat) = (0 : Nat)
abbrev NE : Prop := ∀ (i : Nat), i < (0 : Nat) -> false = false
abbrev Xp : Prop := Int.ofNat (0 : Nat) = Int.ofNat (0 : Nat)
abbrev AFS (c : Cht) : Prop := c.ms.length = c.ms.length
abbrev AFH (c : Cht) : Prop := ∀ (i : Nat), i < c.ms.length -> (gD c.ms i).pl = (gD c.ms i).pl /\ (gD c.ms i).ht = (gD c.ms i).ht
abbrev ALD (c : Cht) : Prop := c.ns.length = c.ns.length
abbrev ACL (c : Cht) : Prop := ∀ (i : Nat), i < c.ns.length -> (gD c.ns i).mi = (gD c.ns i).mi /\ (gD c.ns i).t.lo = (gD c.ns i).t.lo /\ (gD c.ns i).t.hi = (gD c.ns i).t.hi /\ (gD c.ns i).s.lo = (gD c.ns i).s.lo /\ (gD
 c.ns i).s.hi = (gD c.ns i).s.hi
abbrev AIB (c : Cht) : Dk := AH (AGN c)
abbrev MW (c : Cht) : Cht := (AIB c).c
abbrev AHG (c : Cht) : Span := (MW c).p
abbrev AHP (c : Cht) : List Mk := (MW c).ms
abbrev ADF (i : Nat) (c : Cht) : Prop := i < (AH c).c.ms.length
abbrev AHC (c : Cht) (i : Nat) : Mk := gD (AHP c) i
abbrev Bq (c : Cht) : List Nt := (MW c).ns
abbrev AKI (i : Nat) (c : Cht) : Prop := i < (AH c).c.ns.length
abbrev cB (c : Cht) (i : Nat) : Nt := gD (Bq c) i
abbrev Aw (c : Cht) (i : Nat) : Int := (gD (AH c).c.ns i).t.lo
abbrev O6 (c : Cht) (i : Nat) : Span := (cB c i).t
abbrev ZS (c : Cht) (i : Nat) : Int := (gD (AH c).c.ns i).t.hi
abbrev ZJ (c : Cht) (i : Nat) : Int := (gD (AH c).c.ns i).s.lo
abbrev R0 (c : Cht) (i : Nat) : Span := (cB c i).s
abbrev Bx (c : Cht) (i : Nat) : Int := (gD (AH c).c.ns i).s.hi
abbrev PZ : Prop := ∀ (i : Nat), i < (40 : Nat) -> false = false
abbrev Zv (c : Cht) (n : Int) : Nt := ntOf (Bq c) n
abbrev AHH (c : Cht) (n : Int) : Span := (Zv c n).t
abbrev ACW (c : Cht) (n : Int) : Span := (Zv c n).s
abbrev ZR (c : Cht) : Prop := c.ns.length = (0 : Nat)
abbrev AFJ : Prop := (0 : Nat) < (1 : Nat)
abbrev Q3 (c : Cht) : Prop := (AH c).c.p.lo = (AH c).c.p.lo
abbrev Z4 (c : Cht) : Prop := (AH c).c.p.hi = (AH c).c.p.hi
abbrev AHK (c : Cht) : Prop := (AH c).c.base = (AH c).c.base
abbrev N8 (c : Cht) : Prop := (AH c).c.scale = (AH c).c.scale
abbrev ADR (c : Cht) : Prop := (AH c).c.off = (AH c).c.off
abbrev YY (c : Cht) : Prop := ∀ (n : Int), (AH c).st n = (AH c).st n
abbrev Zq (c : Cht) : List Mk := AE (AH c).c.ms.length λ (i : Nat) => gD (AH c).c.ms i
abbrev aD (c : Cht) : Nat := (Zq c).length
abbrev AIH (c : Cht) (i : Nat) : Mk := gD (Zq c) i
abbrev QM (c : Cht) : List Nt := AE (AH c).c.ns.length λ (i : Nat) => gD (AH c).c.ns i
abbrev AEI (c : Cht) : Nat := (QM c).length
abbrev bG (c : Cht) (i : Nat) : Nt := gD (QM c) i
abbrev AFZ (c : Cht) (i : Nat) : Span := (bG c i).t
abbrev ABK (c : Cht) (i : Nat) : Span := (bG c i).s
abbrev aK (c : Cht) (n : Int) : Nt := ntOf (QM c) n
abbrev AEV (c : Cht) (n : Int) : Span := (aK c n).t
abbrev V6 (c : Cht) (n : Int) : Span := (aK c n).s
abbrev bP (c : Cht) : Dk := Xe (DkZ.mk (Dk.mk (Cht.mk (AH c).c.p (AH c).c.base (AH c).c.scale (AH c).c.off (Zq c) (QM c)) (AH c).st (AH c).sp) (AE (0 : Nat) λ (i : Nat) => default))
abbrev MX (c : Cht) : Cht := (bP c).c
abbrev Ca (c : Cht) : List Nt := (MX c).ns
abbrev bL (c : Cht) (n : Int) : Nt := ntOf (Ca c) n
abbrev Z0 (c : Cht) (n : Int) : Span := (bL c n).t
abbrev ADX (c : Cht) (n : Int) : Span := (bL c n).s
abbrev cP (c : Cht) : Span := (MX c).p
abbrev AEH (c : Cht) : Int := (cP c).lo
abbrev ABP (c : Cht) : Prop := AEH c = AEH c
abbrev AKY (c : Cht) : Int := (cP c).hi
abbrev ADY (c : Cht) : Prop := AKY c = AKY c
abbrev Xj (c : Cht) : Int := (MX c).base
abbrev Y7 (c : Cht) : Prop := Xj c = Xj c
abbrev eJ (c : Cht) : Int := (MX c).scale
abbrev U6 (c : Cht) : Prop := eJ c = eJ c
abbrev cI (c : Cht) : Int := (MX c).off
abbrev AGY (c : Cht) : Prop := cI c = cI c
abbrev ACJ (c : Cht) : List Mk := (MX c).ms
abbrev Ah (c : Cht) : Nat := (ACJ c).length
abbrev Zl (c : Cht) (i : Nat) : Mk := gD (ACJ c) i
abbrev Yv (c : Cht) : List Mk := AE (Ah c) λ (i : Nat) => Zl c i
abbrev LP (c : Cht) : Nat := (Yv c).length
abbrev O7 (c : Cht) (i : Nat) : Mk := gD (Yv c) i
abbrev U7 (c : Cht) (i : Nat) : Int := (O7 c i).pl
abbrev T8 (c : Cht) (i : Nat) : Int := (Zl c i).pl
abbrev AHY (c : Cht) (i : Nat) : Int := (O7 c i).ht
abbrev AHM (c : Cht) (i : Nat) : Int := (Zl c i).ht
abbrev YE (c : Cht) : Nat := (Ca c).length
abbrev Ae (c : Cht) (i : Nat) : Nt := gD (Ca c) i
abbrev QD (c : Cht) : List Nt := AE (YE c) λ (i : Nat) => Ae c i
abbrev Yj (c : Cht) : Nat := (QD c).length
abbrev bB (c : Cht) (i : Nat) : Nt := gD (QD c) i
abbrev AEM (c : Cht) (i : Nat) : Int := (bB c i).mi
abbrev Z3 (c : Cht) (i : Nat) : Int := (Ae c i).mi
abbrev ABM (c : Cht) (i : Nat) : Span := (bB c i).t
abbrev iL (c : Cht) (i : Nat) : Int := (ABM c i).lo
abbrev qF (c : Cht) (i : Nat) : Span := (Ae c i).t
abbrev gS (c : Cht) (i : Nat) : Int := (qF c i).lo
abbrev gL (c : Cht) (i : Nat) : Int := (ABM c i).hi
abbrev pO (c : Cht) (i : Nat) : Int := (qF c i).hi
abbrev kP (c : Cht) (i : Nat) : Span := (bB c i).s
abbrev gA (c : Cht) (i : Nat) : Int := (kP c i).lo
abbrev oE (c : Cht) (i : Nat) : Span := (Ae c i).s
abbrev rP (c : Cht) (i : Nat) : Int := (oE c i).lo
abbrev oG (c : Cht) (i : Nat) : Int := (kP c i).hi
abbrev jY (c : Cht) (i : Nat) : Int := (oE c i).hi
abbrev Fp (c : Cht) (n : Int) : Bool := hasN (QD c) n
abbrev Hr (c : Cht) (n : Int) : Nt := ntOf (QD c) n
abbrev kK (c : Cht) (n : Int) : Int := (Hr c n).mi
abbrev oT (c : Cht) (n : Int) : Span := (Hr c n).t
abbrev pE (c : Cht) (n : Int) : Int := (oT c n).lo
abbrev jS (c : Cht) (n : Int) : Int := (oT c n).hi
abbrev fL (c : Cht) (n : Int) : Span := (Hr c n).s
abbrev pS (c : Cht) (n : Int) : Int := (fL c n).lo
abbrev oY (c : Cht) (n : Int) : Int := (fL c n).hi
abbrev RU (c : Cht) : Prop := (H7 c).q.length = (0 : Nat)
abbrev SG (c : Cht) : Prop := (H7 c).r.length = (0 : Nat)
theorem CQP (c : Cht) : (CIP c) = ((c.p.lo = c.p.lo /\ c.p.hi = c.p.hi /\ c.base = c.base /\ c.scale = c.scale /\ c.off = c.off /\ AQK c /\ ATC c /\ BED c /\ P2 c /\ (Qu c < (4611686018427387904
 : Nat) /\ Pu c < (4611686018427387904 : Nat)) /\ AK (AGN c) = (0 : Int)) /\ (∃ (a : One), (IM /\ NE /\ (↑c.ns.length : Int) = (↑c.ns.length : Int) /\ Xp /\ c.p.lo = c.p.lo /\ c.p.hi = c.p.hi
 /\ c.base = c.base /\ c.scale = c.scale /\ c.off = c.off /\ AFS c /\ AFH c /\ ALD c /\ ACL c /\ (AH c).c.p.lo = (AHG c).lo /\ (AH c).c.p.hi = (AHG c).hi /\ (AH c).c.base = (MW
 c).base /\ (AH c).c.scale = (MW c).scale /\ (AH c).c.off = (MW c).off /\ (AH c).c.ms.length = (AHP c).length /\ (∀ (i : Nat), ADF i c -> (gD (AH c).c.ms i).pl = (AHC c i).pl /\ (gD (AH
 c).c.ms i).ht = (AHC c i).ht) /\ (AH c).c.ns.length = (Bq c).length /\ (∀ (i : Nat), AKI i c -> (gD (AH c).c.ns i).mi = (cB c i).mi /\ Aw c i = (O6 c i).lo /\ ZS c i =
 (O6 c i).hi /\ ZJ c i = (R0 c i).lo /\ Bx c i = (R0 c i).hi) /\ PZ /\ AT = AT /\ (∀ (n : Int), hasN (AH c).c.ns n = hasN (Bq c) n) /\ (∀ (n : Int), (AH c).st n =
 (AIB c).st n) /\ ∀ (n : Int), (ntOf (AH c).c.ns n).mi = (Zv c n).mi /\ (ntOf (AH c).c.ns n).t.lo = (AHH c n).lo /\ (ntOf (AH c).c.ns n).t.hi = (AHH c n).hi /\ (ntOf (AH c).c.ns n).s.lo =
 (ACW c n).lo /\ (ntOf (AH c).c.ns n).s.hi = (ACW c n).hi) /\ ZR c) /\ ∀ (a : One), ZR c -> bif decide ((↑(0 : Nat) : Int) < (↑c.ns.length : Int)) then ((True /\ ((0 : Nat) < (0 : Nat) -> (0 : Nat) =
 (1 : Nat))) /\ ((1 : Nat) <= (1 : Nat) /\ (AFJ -> (1 : Nat) = (1 : Nat))) /\ (false = true -> AFJ) /\ (1 : Nat) <= (9223372036854775807 : Nat) /\ (8 : Nat) <= (140737488355328 : Nat)) /\ False else (IM /\
 NE /\ c.p.lo = c.p.lo /\ c.p.hi = c.p.hi /\ c.base = c.base /\ c.scale = c.scale /\ c.off = c.off /\ AQK c /\ ATC c /\ BED c /\ P2 c /\ c.p.lo = c.p.lo /\ c.p.hi = c.p.hi /\ c.base = c.base /\ c.scale =
 c.scale /\ c.off = c.off /\ c.ms.length = Qu c /\ (∀ (i : Nat), i < c.ms.length -> (gD c.ms i).pl = BDO c i /\ (gD c.ms i).ht = BER c i) /\ c.ns.length = Pu c /\ ∀ (i : Nat), i < c.ns.length -> (gD c.ns
 i).mi = ADM c i /\ (gD c.ns i).t.lo = AAK c i /\ (gD c.ns i).t.hi = AJB c i /\ (gD c.ns i).s.lo = ADN c i /\ (gD c.ns i).s.hi = ADU c i) /\ (∃ (a : One), (IM /\ NE /\ IM /\
 NE /\ IM /\ NE /\ Int.negSucc (0 : Nat) = Int.negSucc (0 : Nat) /\ IM /\ NE /\ Xp /\ Xp /\ c.p.lo = c.p.lo /\ c.p.hi = c.p.hi /\ c.base = c.base /\ c.scale = c.scale /\ c.off = c.off
 /\ AFS c /\ AFH c /\ ALD c /\ ACL c /\ Q3 c /\ Z4 c /\ AHK c /\ N8 c /\ ADR c /\ (AH c).c.ms.length = (AH c).c.ms.length /\ (∀ (i : Nat), ADF i c -> (gD (AH
 c).c.ms i).pl = (gD (AH c).c.ms i).pl /\ (gD (AH c).c.ms i).ht = (gD (AH c).c.ms i).ht) /\ (AH c).c.ns.length = (AH c).c.ns.length /\ (∀ (i : Nat), AKI i c -> (gD (AH c).c.ns i).mi = (gD (AH c).c.ns i).mi
 /\ Aw c i = Aw c i /\ ZS c i = ZS c i /\ ZJ c i = ZJ c i /\ Bx c i = Bx c i) /\ PZ /\ AT = AT /\ (∀ (n : Int), hasN (AH c).c.ns n = hasN (AH c).c.ns n) /\
 YY c /\ ∀ (n : Int), (ntOf (AH c).c.ns n).mi = (ntOf (AH c).c.ns n).mi /\ (ntOf (AH c).c.ns n).t.lo = (ntOf (AH c).c.ns n).t.lo /\ (ntOf (AH c).c.ns n).t.hi = (ntOf (AH c).c.ns n).t.hi /\ (ntOf (AH
 c).c.ns n).s.lo = (ntOf (AH c).c.ns n).s.lo /\ (ntOf (AH c).c.ns n).s.hi = (ntOf (AH c).c.ns n).s.hi) /\ ZR c) /\ ∀ (a : One), ZR c -> (IM /\ IM /\ Q3 c /\ Z4 c /\ AHK c /\
 N8 c /\ ADR c /\ aD c = (AH c).c.ms.length /\ (∀ (i : Nat), i < aD c -> (AIH c i).pl = (gD (AH c).c.ms i).pl /\ (AIH c i).ht = (gD (AH c).c.ms i).ht) /\ AEI c = (AH
 c).c.ns.length /\ (∀ (i : Nat), i < AEI c -> (bG c i).mi = (gD (AH c).c.ns i).mi /\ (AFZ c i).lo = Aw c i /\ (AFZ c i).hi = ZS c i /\ (ABK c i).lo = ZJ c i /\ (ABK c
 i).hi = Bx c i) /\ PZ /\ AT = AT /\ (∀ (n : Int), hasN (QM c) n = hasN (AH c).c.ns n) /\ YY c /\ (∀ (n : Int), (aK c n).mi = (ntOf (AH c).c.ns n).mi /\ (AEV c n).lo = (ntOf (AH
 c).c.ns n).t.lo /\ (AEV c n).hi = (ntOf (AH c).c.ns n).t.hi /\ (V6 c n).lo = (ntOf (AH c).c.ns n).s.lo /\ (V6 c n).hi = (ntOf (AH c).c.ns n).s.hi) /\ AT = AT /\ (∀ (n : Int), hasN (AH c).c.ns n =
 hasN (Ca c) n) /\ (∀ (n : Int), (AH c).st n = (bP c).st n) /\ (∀ (n : Int), (ntOf (AH c).c.ns n).mi = (bL c n).mi /\ (ntOf (AH c).c.ns n).t.lo = (Z0 c n).lo /\ (ntOf (AH c).c.ns n).t.hi =
 (Z0 c n).hi /\ (ntOf (AH c).c.ns n).s.lo = (ADX c n).lo /\ (ntOf (AH c).c.ns n).s.hi = (ADX c n).hi) /\ (0 : Nat) < (4611686018427387904 : Nat) /\ aD c <= (40 : Nat)) /\ (ABP c /\ ADY c
 /\ Y7 c /\ U6 c /\ AGY c /\ LP c = Ah c /\ (∀ (i : Nat), i < LP c -> U7 c i = T8 c i /\ AHY c i = AHM c i) /\ Yj c = YE c /\ (∀ (i : Nat), i <
 Yj c -> AEM c i = Z3 c i /\ iL c i = gS c i /\ gL c i = pO c i /\ gA c i = rP c i /\ oG c i = jY c i) /\ PZ /\ AT = AT /\ (∀ (n : Int),
 Fp c n = hasN (AH c).c.ns n) /\ YY c /\ (∀ (n : Int), kK c n = (ntOf (AH c).c.ns n).mi /\ pE c n = (ntOf (AH c).c.ns n).t.lo /\ jS c n = (ntOf (AH c).c.ns n).t.hi /\ pS c
 n = (ntOf (AH c).c.ns n).s.lo /\ oY c n = (ntOf (AH c).c.ns n).s.hi) /\ ABP c /\ ADY c /\ Y7 c /\ U6 c /\ AGY c /\ Ah c = LP c /\ (∀ (i : Nat), i < Ah c ->
 T8 c i = U7 c i /\ AHM c i = AHY c i) /\ YE c = Yj c /\ (∀ (i : Nat), i < YE c -> Z3 c i = AEM c i /\ gS c i = iL c i /\ pO c i = gL c
 i /\ rP c i = gA c i /\ jY c i = oG c i) /\ PZ /\ AT = AT /\ (∀ (n : Int), hasN (AH c).c.ns n = Fp c n) /\ YY c /\ (∀ (n : Int), (ntOf (AH c).c.ns n).mi = kK c
 n /\ (ntOf (AH c).c.ns n).t.lo = pE c n /\ (ntOf (AH c).c.ns n).t.hi = jS c n /\ (ntOf (AH c).c.ns n).s.lo = pS c n /\ (ntOf (AH c).c.ns n).s.hi = oY c n) /\ (1 : Nat) <= LP c /\
 LP c <= (40 : Nat) /\ ∀ (j : Int), Fp c j = true -> (0 : Int) <= j /\ j < (↑(LP c) : Int)) /\ bif !(AU (Dk.mk (Cht.mk (cP c) (Xj c) (eJ c) (cI c) (Yv c) (QD
 c)) (AH c).st (bP c).sp)).snd then RU c /\ RU c /\ SG c /\ SG c /\ (H7 c).e = (6 : Int) else RU c /\ RU c /\ SG c /\ SG c /\ (H7 c).e = (0 : Int)) := by
 kernel_rfl
def CMD : Ann := ann 101 [(GR, C_openX.spec dC1)]
def CJF (c : Cht) : Prop := AZ Try.prog CMD TV (AL TV) [.d (XX c)] (AG []) (.tup [.d (DI nilI), .d (Cf nilP), .int (AK c)]) [] [] []
theorem CPR (c : Cht) : (CJF c) = ((c.p.lo = c.p.lo /\ c.p.hi = c.p.hi /\ c.base = c.base /\ c.scale = c.scale /\ c.off = c.off /\ (AE c.ms.length λ (i : Nat) => gD c.ms i).length = c.ms.length /\ (∀ (i : Nat), i <
 (AE c.ms.length λ (i : Nat) => gD c.ms i).length -> (gD (AE c.ms.length λ (i : Nat) => gD c.ms i) i).pl = (gD c.ms i).pl /\ (gD (AE c.ms.length λ (i : Nat) => gD c.ms i) i).ht = (gD c.ms i).ht) /\ (AE c.ns.length
 λ (i : Nat) => gD c.ns i).length = c.ns.length /\ (∀ (i : Nat), i < (AE c.ns.length λ (i : Nat) => gD c.ns i).length -> (gD (AE c.ns.length λ (i : Nat) => gD c.ns i) i).mi = (gD c.ns i).mi /\ (gD (AE c.ns.length
 λ (i : Nat) => gD c.ns i) i).t.lo = (gD c.ns i).t.lo /\ (gD (AE c.ns.length λ (i : Nat) => gD c.ns i) i).t.hi = (gD c.ns i).t.hi /\ (gD (AE c.ns.length λ (i : Nat) => gD c.ns i) i).s.lo = (gD c.ns i).s.lo /\ (gD
 (AE c.ns.length λ (i : Nat) => gD c.ns i) i).s.hi = (gD c.ns i).s.hi) /\ ((AE c.ms.length λ (i : Nat) => gD c.ms i).length < 4611686018427387904 /\ (AE c.ns.length λ (i : Nat) => gD c.ns i).length <
 4611686018427387904) /\ AK (Cht.mk c.p c.base c.scale c.off (AE c.ms.length λ (i : Nat) => gD c.ms i) (AE c.ns.length λ (i : Nat) => gD c.ns i)) ≠ 0) /\ bif AK (Cht.mk c.p c.base c.scale c.off (AE
 c.ms.length λ (i : Nat) => gD c.ms i) (AE c.ns.length λ (i : Nat) => gD c.ns i)) != 0 then 0 = 0 /\ 0 = 0 /\ 0 = 0 /\ 0 = 0 /\ AK c = AK (Cht.mk c.p c.base c.scale c.off (AE c.ms.length λ (i : Nat) => gD c.ms
 i) (AE c.ns.length λ (i : Nat) => gD c.ns i)) else False) := by kernel_rfl
theorem CXD (c : Cht) (h1 : c.ms.length < 4611686018427387904 /\ c.ns.length < 4611686018427387904) (h0 : AK c = 0) (hn : c.ns.length = 0) : CIP c := by
 have hl := ES h0
 have hs := Xf h0
 rw [CQP]; delta G3 Qu AQK BHP BDO BER ATC vN Pu BED Zh ADM AES AAK AJB AGB ADN ADU P2 AGN IM NE Xp AFS AFH ALD ACL AIB MW AHG AHP ADF AHC Bq AKI cB Aw O6 ZS ZJ R0 Bx PZ Zv AHH ACW ZR AFJ Q3 Z4 AHK N8 ADR YY Zq aD AIH QM AEI bG AFZ ABK aK AEV V6 bP MX Ca bL Z0 ADX cP AEH ABP AKY ADY Xj Y7 eJ U6 cI AGY ACJ Ah Zl Yv LP O7 U7 T8 AHY AHM YE Ae QD Yj bB AEM Z3 ABM iL qF gS gL pO kP gA oE rP oG jY Fp Hr kK oT pE jS fL pS oY RU SG; simp only [CC, eq_self, implies_true, forall_const, BZ, AAT, YA, BWM, BIW]
 have hq : (eT c).q = [] := by unfold eT; rw [hn]; rfl
 have hr : (eT c).r = [] := by unfold eT; rw [hn]; rfl
 refine ⟨⟨h1, h0⟩, ⟨default, hn⟩, λ _ => ⟨λ h => by omega, λ _ => ⟨⟨default, hn⟩, λ _ => ⟨⟨λ n => rfl, by decide, hl.2.1.2⟩, ⟨hl.2.1.1, hl.2.1.2, hs.1⟩, λ hc => ?_, λ hc => ?_⟩⟩⟩⟩
 ·have hc : (AU (Xe ⟨AH c, []⟩)).2 = false := hc
  have hc : (AU (fwW c)).2 = false := by unfold fwW; rw [hq]; exact hc
  unfold H7; rw [hc]; exact ⟨rfl, rfl, rfl, rfl, rfl⟩
 ·have hc : (AU (Xe ⟨AH c, []⟩)).2 = true := hc
  have hc : (AU (fwW c)).2 = true := by unfold fwW; rw [hq]; exact hc
  unfold H7; rw [hc]
  exact ⟨by show (eT c).q.length = 0; rw [hq]; rfl, by show (eT c).q.length = 0; rw [hq]; rfl, by show (eT c).r.length = 0; rw [hr]; rfl, by show (eT c).r.length = 0; rw [hr]; rfl, rfl⟩
theorem CJI : AM Try.prog AQA (C_few.spec dC1) := okT C_few (λ (c : Cht) h => by
 obtain ⟨h1, h2⟩ : (c.ms.length < 4611686018427387904 /\ c.ns.length < 4611686018427387904) /\ (AK c = 0 -> c.ns.length <= 12) := h
 by_cases h0 : AK c = 0
 ·have e : C_few.val c = .tup [.d (DI (H7 c).q), .d (Cf (H7 c).r), .int (H7 c).e] := by
   show AVal.tup [.d (DI (JC c).q), .d (Cf (JC c).r), .int (JC c).e] = _
   unfold JC; rw [h0]; rfl
  rw [e]
  rcases Nat.eq_zero_or_pos c.ns.length with hz | hp
  ·exact UO (A := CMX c) (L := []) (keep := []) (ren := []) (fz := []) AFD (by kernel_rfl) (AC K8 (AC COF (AC BNK (AC yM AJ)))) (CXD c h1 h0 hz)
  ·exact UO (A := CUB c) (L := []) (keep := []) (ren := []) (fz := []) AFD (by kernel_rfl) (AC K8 (AC CRF (AC CEE (AC BNK (AC yM AJ))))) (CYJ c h1 h0 ⟨hp, h2 h0⟩)
 ·have h0' : (AK c == 0) = false := by simpa using h0
  have e : C_few.val c = .tup [.d (DI nilI), .d (Cf nilP), .int (AK c)] := by
   show AVal.tup [.d (DI (JC c).q), .d (Cf (JC c).r), .int (JC c).e] = _
   unfold JC; rw [h0']; rfl
  rw [e]
  refine UO (A := CMD) (L := []) (keep := []) (ren := []) (fz := []) AFD (by kernel_rfl) (AC yX AJ) ?_
  show CJF c; rw [CPR]; simp only [CC, eq_self, implies_true, forall_const, BZ]
  simp [h1, h0, nilI, nilP]) _
def C_Stops : Ctr := { α := Cht, xs := λ c => [.d (XX c)], val := λ c => .tup [.d (DI (JC c).q), .int (JC c).e], keep := λ _ => [], pre := λ c => [(c.ms.length < 4611686018427387904 /\ c.ns.length < 4611686018427387904) /\ (AK c = 0 -> c.ns.length <= 12)] }
def ANB : Ann := ann 15 [(AQA, C_few.spec dC1)]
def CDX (c : Cht) : Prop := AZ Try.prog ANB BRF (AL BRF) [.d (XX c)] (AG []) (C_Stops.val c) [] [] []
theorem CLE (c : Cht) : (CDX c) = ((c.p.lo = c.p.lo /\ c.p.hi = c.p.hi /\ c.base = c.base /\ c.scale = c.scale /\ c.off = c.off /\ (AE c.ms.length λ (i : Nat) => gD c.ms i).length = c.ms.length /\ (∀ (i : Nat), i <
 (AE c.ms.length λ (i : Nat) => gD c.ms i).length -> (gD (AE c.ms.length λ (i : Nat) => gD c.ms i) i).pl = (gD c.ms i).pl /\ (gD (AE c.ms.length λ (i : Nat) => gD c.ms i) i).ht = (gD c.ms i).ht) /\ (AE c.ns.length
 λ (i : Nat) => gD c.ns i).length = c.ns.length /\ (∀ (i : Nat), i < (AE c.ns.length λ (i : Nat) => gD c.ns i).length -> (gD (AE c.ns.length λ (i : Nat) => gD c.ns i) i).mi = (gD c.ns i).mi /\ (gD (AE c.ns.length
 λ (i : Nat) => gD c.ns i) i).t.lo = (gD c.ns i).t.lo /\ (gD (AE c.ns.length λ (i : Nat) => gD c.ns i) i).t.hi = (gD c.ns i).t.hi /\ (gD (AE c.ns.length λ (i : Nat) => gD c.ns i) i).s.lo = (gD c.ns i).s.lo /\ (gD
 (AE c.ns.length λ (i : Nat) => gD c.ns i) i).s.hi = (gD c.ns i).s.hi) /\ ((AE c.ms.length λ (i : Nat) => gD c.ms i).length < 4611686018427387904 /\ (AE c.ns.length λ (i : Nat) => gD c.ns i).length <
 4611686018427387904) /\ (AK (Cht.mk c.p c.base c.scale c.off (AE c.ms.length λ (i : Nat) => gD c.ms i) (AE c.ns.length λ (i : Nat) => gD c.ns i)) = 0 -> (AE c.ns.length λ (i : Nat) => gD c.ns i).length <= 12))
 /\ (JC c).q.length = (JC (Cht.mk c.p c.base c.scale c.off (AE c.ms.length λ (i : Nat) => gD c.ms i) (AE c.ns.length λ (i : Nat) => gD c.ns i))).q.length /\ (∀ (i : Nat), i < (JC c).q.length -> gD (JC c).q i =
 gD (JC (Cht.mk c.p c.base c.scale c.off (AE c.ms.length λ (i : Nat) => gD c.ms i) (AE c.ns.length λ (i : Nat) => gD c.ns i))).q i) /\ (JC c).e = (JC (Cht.mk c.p c.base c.scale c.off (AE c.ms.length λ (i :
 Nat) => gD c.ms i) (AE c.ns.length λ (i : Nat) => gD c.ns i))).e) := by kernel_rfl
theorem CNN : AM Try.prog BOT (C_Stops.spec dC1) := LF C_Stops (λ _ => ANB) [] [] CMK (λ _ => by kernel_rfl) (λ _ => AC CJI AJ) (λ (c : Cht) h => by
 show CDX c; rw [CLE]; simp only [CC, eq_self, implies_true, forall_const, BZ]; exact h) (λ _ => NP rfl rfl) _
def C_Pairs : Ctr := { α := Cht, xs := λ c => [.d (XX c)], val := λ c => .tup [.d (Cf (JC c).r), .int (JC c).e], keep := λ _ => [], pre := λ c => [(c.ms.length < 4611686018427387904 /\ c.ns.length < 4611686018427387904) /\ (AK c = 0 -> c.ns.length <= 12)] }
def CFG (c : Cht) : Prop := AZ Try.prog ANB BVF (AL BVF) [.d (XX c)] (AG []) (C_Pairs.val c) [] [] []
theorem CLU (c : Cht) : (CFG c) = ((c.p.lo = c.p.lo /\ c.p.hi = c.p.hi /\ c.base = c.base /\ c.scale = c.scale /\ c.off = c.off /\ (AE c.ms.length λ (i : Nat) => gD c.ms i).length = c.ms.length /\ (∀ (i : Nat), i <
 (AE c.ms.length λ (i : Nat) => gD c.ms i).length -> (gD (AE c.ms.length λ (i : Nat) => gD c.ms i) i).pl = (gD c.ms i).pl /\ (gD (AE c.ms.length λ (i : Nat) => gD c.ms i) i).ht = (gD c.ms i).ht) /\ (AE c.ns.length
 λ (i : Nat) => gD c.ns i).length = c.ns.length /\ (∀ (i : Nat), i < (AE c.ns.length λ (i : Nat) => gD c.ns i).length -> (gD (AE c.ns.length λ (i : Nat) => gD c.ns i) i).mi = (gD c.ns i).mi /\ (gD (AE c.ns.length
 λ (i : Nat) => gD c.ns i) i).t.lo = (gD c.ns i).t.lo /\ (gD (AE c.ns.length λ (i : Nat) => gD c.ns i) i).t.hi = (gD c.ns i).t.hi /\ (gD (AE c.ns.length λ (i : Nat) => gD c.ns i) i).s.lo = (gD c.ns i).s.lo /\ (gD
 (AE c.ns.length λ (i : Nat) => gD c.ns i) i).s.hi = (gD c.ns i).s.hi) /\ ((AE c.ms.length λ (i : Nat) => gD c.ms i).length < 4611686018427387904 /\ (AE c.ns.length λ (i : Nat) => gD c.ns i).length <
 4611686018427387904) /\ (AK (Cht.mk c.p c.base c.scale c.off (AE c.ms.length λ (i : Nat) => gD c.ms i) (AE c.ns.length λ (i : Nat) => gD c.ns i)) = 0 -> (AE c.ns.length λ (i : Nat) => gD c.ns i).length <= 12))
 /\ (JC c).r.length = (JC (Cht.mk c.p c.base c.scale c.off (AE c.ms.length λ (i : Nat) => gD c.ms i) (AE c.ns.length λ (i : Nat) => gD c.ns i))).r.length /\ (∀ (i : Nat), i < (JC c).r.length -> (gD (JC c).r
 i).a = (gD (JC (Cht.mk c.p c.base c.scale c.off (AE c.ms.length λ (i : Nat) => gD c.ms i) (AE c.ns.length λ (i : Nat) => gD c.ns i))).r i).a /\ (gD (JC c).r i).b = (gD (JC (Cht.mk c.p c.base c.scale c.off (AE
 c.ms.length λ (i : Nat) => gD c.ms i) (AE c.ns.length λ (i : Nat) => gD c.ns i))).r i).b) /\ (JC c).e = (JC (Cht.mk c.p c.base c.scale c.off (AE c.ms.length λ (i : Nat) => gD c.ms i) (AE c.ns.length λ (i :
 Nat) => gD c.ns i))).e) := by kernel_rfl
theorem CJD : AM Try.prog BLN (C_Pairs.spec dC1) := LF C_Pairs (λ _ => ANB) [] [] CIK (λ _ => by kernel_rfl) (λ _ => AC CJI AJ) (λ (c : Cht) h => by
 show CFG c; rw [CLU]; simp only [CC, eq_self, implies_true, forall_const, BZ]; exact h) (λ _ => NP rfl rfl) _
end Go.Bal
