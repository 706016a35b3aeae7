/- Package rating: the fewest parts. -/
import Derived.Test.YtoihhodbkimedaaGreatRatT0
set_option linter.unusedVariables false
set_option linter.unusedSimpArgs false
namespace Go.Bal
open Go Go.Sym Go.Proofs
def eLL (l : List (List Int)) : DVal := lst 1 l.length λ i => BD (gD l i)
def BXO (l : List (List Int)) : AObj := .row 1 l.length λ i => BD (gD l i)
structure FS where
 fr : Nat
 to : Nat
 ln : Ln
 b : List Int
 l : List Ln
 k : List (List Int)
 deriving Inhabited
def ZI (n : Nat) : List Int := (List.range n).map Int.ofNat
def AJ (g : List Gau) : List Int := stM (CV g) (ZI g.length)
def nxK (g : List Gau) (o : List Int) (t : Nat) : Nat -> Nat -> Nat
 | 0, k => k
 | n + 1, k => bif CV g (gD o k) == CV g (gD o t) then nxK g o t n (k + 1) else k
def Rh (g : List Gau) (o : List Int) (t : Nat) : Nat := nxK g o t (o.length - t) t
def pkR (g : List Gau) (o : List Int) (a b : Nat) : List Gau := pkM ⟨g, o, a, b⟩
def oF (g : List Gau) (o : List Int) (s : FS) : FS := ⟨s.to, s.to, s.ln, s.b ++ [CV g (gD o s.to)], s.l ++ [s.ln], s.k ++ [TY ⟨g, (o.take (Rh g o s.to)).drop s.fr⟩]⟩
def goF (g : List Gau) (o : List Int) (s : FS) : FS := ⟨s.fr, Rh g o s.to, (BL (pkR g o s.fr (Rh g o s.to))).1, s.b, s.l, s.k⟩
structure FR where
 r : Rtg
 k : List (List Int)
 e : Int
def kS (g : List Gau) (o : List Int) : Nat -> FS -> FR
 | 0, s => ⟨⟨s.b, s.l ++ [s.ln]⟩, s.k, 0⟩
 | n + 1, s => bif decide (s.to < o.length) then (bif (BL (pkR g o s.to (Rh g o s.to))).2 then (bif (BL (pkR g o s.fr (Rh g o s.to))).2 then kS g o n (goF g o s) else kS g o n (oF g o s)) else ⟨⟨[], []⟩, [], 6⟩) else ⟨⟨s.b, s.l ++ [s.ln]⟩, s.k, 0⟩
def ini0 : FS := ⟨0, 0, AM ⟨0, 0⟩, [], [], []⟩
def BS (g : List Gau) : FR := bif AK g == 0 then kS g (AJ g) (2 * g.length + 2) ini0 else ⟨⟨[], []⟩, [], AK g⟩
def Qy (o : List Int) (s : FS) : Nat := 2 * (o.length - s.to) + (if s.fr < s.to then 1 else 0)
def F2 (g : List Gau) (s : FS) : Prop := AK g = 0 /\ s.fr <= s.to /\ s.to <= g.length /\ s.b.length <= s.fr /\ s.l.length = s.b.length /\ s.k.length = s.b.length /\ (∀ m, Qy (AJ g) s + 1 <= m -> BS g = kS g (AJ g) m s)
def zRtg : HCell := .live (.box [.d PQ, .d PQ])
def lnBx (x : Ln) : HCell := .live (.box [.int x.a0, .int x.a1, .int x.b0, .int x.b1])
def fwN (g : List Gau) (k : Nat) : List (Nat × AVal) := [(1, .bptr 1000 0), (2, .bptr 1016 0), (6, .bptr 5000 0), (24, .int g.length), (25, .int k)]
def fw6n (g : List Gau) : Shape := { α := One, dflt := default, T := λ _ => ⟨fwN g 0, [(1000, .live (bxG g)), (1016, zRtg), (5000, .live (.box [.d PQ]))]⟩, inv := λ _ => AK g = 0, meas := λ _ => g.length + 1 }
def fw6o (g : List Gau) : Shape := { α := Nat, dflt := 0, T := λ k => ⟨fwN g k, [(1000, .live (bxG g)), (1016, zRtg), (5000, .live (.box [.own 201 1 0 k])), (201, .live (.row 1 k λ i => CH i))]⟩, inv := λ k => AK g = 0 /\ 1 <= k /\ k <= g.length, meas := λ k => g.length - k, again := [(201, 9048)] }
def fwB (g : List Gau) : List (Nat × HCell) := [(1000, .live (bxG g)), (1016, zRtg), (5000, .live (.box [.d (BD (AJ g))]))]
def fw10 (g : List Gau) : Shape := { α := One, dflt := default, T := λ _ => ⟨[(1, .bptr 1000 0), (2, .bptr 1016 0), (6, .bptr 5000 0)], [(1000, .live (bxG g)), (1016, zRtg), (5000, .live (.box [.own 201 1 0 (ZI g.length).length])), (201, .live (rowI (ZI g.length)))]⟩, inv := λ _ => AK g = 0, meas := λ _ => 0 }
def fw11 (g : List Gau) : Shape := { α := One, dflt := default, T := λ _ => ⟨[(1, .bptr 1000 0), (2, .bptr 1016 0), (6, .bptr 5000 0)], fwB g⟩, inv := λ _ => AK g = 0, meas := λ _ => 0, ffz := [201] }
def fwS (s : FS) (kv : AVal) : List (Nat × AVal) := [(1, .bptr 1000 0), (2, .bptr 1016 0), (6, .bptr 5000 0), (8, .bptr 12000 0), (9, kv), (10, .bptr 14032 0), (11, .int s.fr), (12, .int s.to)]
def fwSA (s : FS) : List (Nat × AVal) := fwS s (.d PQ)
def fwSB (s : FS) : List (Nat × AVal) := fwS s (.own 303 1 0 s.k.length)
def fwHA (g : List Gau) (s : FS) : List (Nat × HCell) := fwB g ++ [(12000, zRtg), (14032, lnBx s.ln)]
def fwHB (g : List Gau) (s : FS) : List (Nat × HCell) := fwB g ++ [(12000, .live (.box [.own 301 1 0 s.b.length, .own 302 4 0 s.l.length])), (14032, lnBx s.ln), (301, .live (rowI s.b)), (302, .live (rowL s.l)), (303, .live (BXO s.k))]
def fwA (g : List Gau) : Shape := { α := FS, dflt := default, T := λ s => ⟨fwSA s, fwHA g s⟩, inv := λ s => F2 g s /\ s.b = [] /\ s.l = [] /\ s.k = [], meas := λ s => Qy (AJ g) s, tag := [0] }
def fwBb (g : List Gau) : Shape := { α := FS, dflt := default, T := λ s => ⟨fwSB s, fwHB g s⟩, inv := λ s => F2 g s, meas := λ s => Qy (AJ g) s, tag := [1] }
structure FSK where
 s : FS
 n : Nat
 deriving Inhabited
def AZD (g : List Gau) (m : Nat) (x : FSK) : Prop := F2 g x.s /\ Qy (AJ g) x.s = m /\ x.s.to < g.length /\ x.s.to <= x.n /\ x.n <= g.length /\ Rh g (AJ g) x.s.to = nxK g (AJ g) x.s.to (g.length - x.n) x.n
def BWM (g : List Gau) (m : Nat) : Shape := { α := FSK, dflt := default, T := λ x => ⟨fwSA x.s ++ [(13, .int x.n)], fwHA g x.s⟩, inv := λ x => AZD g m x /\ x.s.b = [] /\ x.s.l = [] /\ x.s.k = [], meas := λ x => g.length - x.n }
def BXN (g : List Gau) (m : Nat) : Shape := { α := FSK, dflt := default, T := λ x => ⟨fwSB x.s ++ [(13, .int x.n)], fwHB g x.s⟩, inv := λ x => AZD g m x, meas := λ x => g.length - x.n }
def fw27 (g : List Gau) (m : Nat) : Shape := { α := FS, dflt := default, T := λ s => ⟨[(1, .bptr 1000 0), (2, .bptr 1016 0), (6, .bptr 5000 0), (8, .bptr 12000 0), (9, .own 303 1 0 s.k.length), (10, .bptr 14032 0), (12, .int s.to)], fwHB g s⟩, inv := λ s => F2 g s /\ s.fr = s.to /\ Qy (AJ g) s < m, meas := λ _ => 0, first := [(301, 26176), (302, 26256), (303, 27128)] }
def C_few : Ctr := { α := List Gau, xs := λ g => [.d (BE g)], L := λ _ => [], val := λ g => .tup [.d (E4 (BS g).r), .d (eLL (BS g).k), .int (BS g).e], keep := λ _ => [], pre := λ g => [g.length < 20 /\ True] }
def BSS (g : List Gau) : Ann := { ann 123 [(Cb, C_Check.spec JW), (BJN, C_ss.spec dGLt), (ZS, Mh), (oZ, C_pk.spec dGPk), (Je, C_isKnot.spec dGsK), (P0, C_line.spec dGsK), (sT, C_kd.spec dGK)] with mt := λ id => id == 8 || id == 25 || id == 26 || id == 28, loops := λ id => if id = 6 then some [fw6n g, fw6o g] else if id = 15 then some [fwA g, fwBb g] else none, inner := λ gs id => if id = 17 then (if gs.getD 1 0 = 0 then some [BWM g (gs.getD 0 0)] else some [BXN g (gs.getD 0 0)]) else none, cut := λ id => if id = 10 then some [fw10 g] else if id = 11 then some [fw11 g] else none, cutIn := λ gs id => if id = 27 then some [fw27 g (gs.getD 0 0)] else none }
def BQQ (g : List Gau) : Prop := AO Try.prog (BSS g) AAT (AF AAT) (C_few.xs g) (AC []) (C_few.val g) [] [] [301, 303, 29064]
abbrev OP (g : List Gau) : List Gau := AD g.length λ (i : Nat) => gD g i
abbrev SO (g : List Gau) : Nat := (OP g).length
abbrev Ak (g : List Gau) : Prop := SO g = g.length
abbrev L8 (g : List Gau) (i : Nat) : Gau := gD (OP g) i
abbrev AMC (g : List Gau) (i : Nat) : Int := (L8 g i).st
abbrev APD (g : List Gau) (i : Nat) : Int := (L8 g i).lo
abbrev AOV (g : List Gau) (i : Nat) : Int := (L8 g i).hi
abbrev YV (g : List Gau) : Prop := ∀ (i : Nat), i < SO g -> AMC g i = (gD g i).st /\ APD g i = (gD g i).lo /\ AOV g i = (gD g i).hi
abbrev ALH (g : List Gau) : Int := AK (OP g)
abbrev Bx (g : List Gau) : Prop := (BS g).r.b.length = (0 : Nat)
abbrev Hd (g : List Gau) : Prop := (BS g).r.l.length = (0 : Nat)
abbrev RL (g : List Gau) : Prop := (BS g).k.length = (0 : Nat)
abbrev fP (g : List Gau) : Prop := (↑g.length : Int) = (↑g.length : Int)
abbrev DU (g : List Gau) : Prop := ∀ (i : Nat), i < g.length -> (gD g i).st = (gD g i).st /\ (gD g i).lo = (gD g i).lo /\ (gD g i).hi = (gD g i).hi
abbrev AH : Prop := (0 : Nat) = (0 : Nat)
abbrev AL : Prop := ∀ (i : Nat), i < (0 : Nat) -> false = false
abbrev AHC : Prop := (0 : Nat) < (0 : Nat)
abbrev AFV : Prop := True /\ (AHC -> (0 : Nat) = (1 : Nat))
abbrev gR : Prop := (1 : Nat) <= (1 : Nat)
abbrev Fj : Prop := (0 : Nat) < (1 : Nat)
abbrev Ju : Prop := (1 : Nat) = (1 : Nat)
abbrev XZ : Prop := gR /\ (Fj -> Ju)
abbrev gW : Prop := true = true -> Fj
abbrev jC : Prop := (1 : Nat) <= (9223372036854775807 : Nat)
abbrev ADY : Prop := AFV /\ XZ /\ gW /\ jC /\ (8 : Nat) <= (140737488355328 : Nat)
abbrev lR (g : List Gau) (a : Nat) : Prop := AK g = (0 : Int) /\ (1 : Nat) <= a /\ a <= g.length
abbrev fU (g : List Gau) (a : Nat) : Nat := g.length - a
abbrev UJ : Prop := false = true -> Fj
abbrev lW (a : Nat) : Nat := a + (1 : Nat)
abbrev AIU (a : Nat) (a1 : Nat) : Prop := a = lW a1
abbrev fI (g : List Gau) : List Int := AD (ZI g.length).length λ (i : Nat) => gD (ZI g.length) i
abbrev XI (g : List Gau) : Nat := (fI g).length
abbrev AEL (g : List Gau) : Prop := XI g = (ZI g.length).length
abbrev ADF (i : Nat) (g : List Gau) : Prop := i < XI g
abbrev iH (g : List Gau) (i : Nat) : Int := gD (fI g) i
abbrev fS (g : List Gau) : Prop := g.length = SO g
abbrev lP (g : List Gau) : Prop := ∀ (i : Nat), i < g.length -> (gD g i).st = AMC g i /\ (gD g i).lo = APD g i /\ (gD g i).hi = AOV g i
abbrev UA (j : Nat) : Nat := (0 : Nat) + j
abbrev GO (g : List Gau) : Prop := (AJ g).length = (AJ g).length
abbrev GQ (g : List Gau) : Prop := ∀ (i : Nat), i < (AJ g).length -> gD (AJ g) i = gD (AJ g) i
abbrev z_few_40 : Ln := AM (Pt.mk (0 : Int) (0 : Int))
abbrev Kg (g : List Gau) (a : FS) : Prop := AK g = (0 : Int) /\ a.fr <= a.to /\ a.to <= g.length /\ a.b.length <= a.fr /\ a.l.length = a.b.length /\ a.k.length = a.b.length /\ ∀ (m : Nat), Qy (AJ g) a + (1 : Nat) <= m
 -> BS g = kS g (AJ g) m a
abbrev fL (g : List Gau) (a : FS) : Prop := Kg g a /\ a.b = [] /\ a.l = [] /\ a.k = []
abbrev ADZ (a : FS) (g : List Gau) : Bool := decide ((↑a.to : Int) < (↑(AJ g).length : Int))
abbrev U3 (a : FSK) (a1 : FS) : Prop := (↑a.s.fr : Int) = (↑a1.fr : Int)
abbrev U5 (a : FSK) (a1 : FS) : Prop := (↑a.s.to : Int) = (↑a1.to : Int)
abbrev ADH (a : FSK) (a1 : FS) : Prop := (↑a.n : Int) = (↑a1.to : Int)
abbrev fE (g : List Gau) (a : FSK) : Nat := g.length - a.n
abbrev Im (g : List Gau) (a : FSK) (a1 : FS) : Prop := (AK g = (0 : Int) /\ a.s.fr <= a.s.to /\ a.s.to <= g.length /\ a.s.b.length <= a.s.fr /\ a.s.l.length = a.s.b.length /\ a.s.k.length = a.s.b.length /\ ∀ (m : Nat),
 Qy (AJ g) a.s + (1 : Nat) <= m -> BS g = kS g (AJ g) m a.s) /\ Qy (AJ g) a.s = Qy (AJ g) a1 /\ a.s.to < g.length /\ a.s.to <= a.n /\ a.n <= g.length /\ Rh g (AJ g) a.s.to = nxK g (AJ g) a.s.to (fE g a)
 a.n
abbrev gE (g : List Gau) (a : FSK) (a1 : FS) : Prop := Im g a a1 /\ a.s.b = [] /\ a.s.l = [] /\ a.s.k = []
abbrev Y8 (a : FSK) (g : List Gau) : Prop := (↑a.n : Int) < (↑(AJ g).length : Int)
abbrev P6 (a : FSK) (g : List Gau) : Bool := decide (Y8 a g)
abbrev Jo (a : FSK) (g : List Gau) : Prop := P6 a g = true
abbrev AJB (a : FSK) : Prop := (0 : Int) <= (↑a.s.to : Int)
abbrev gI (a : FSK) (g : List Gau) : Prop := AJB a /\ (↑a.s.to : Int) < (↑(AJ g).length : Int)
abbrev eY (g : List Gau) (a : FSK) : Prop := (0 : Int) <= gD (AJ g) a.s.to /\ gD (AJ g) a.s.to < (↑g.length : Int)
abbrev AIH (a : FSK) (g : List Gau) : Prop := (Jo a g -> (0 : Int) <= (↑a.n : Int) /\ Y8 a g) /\ (Jo a g -> (0 : Int) <= gD (AJ g) a.n /\ gD (AJ g) a.n < (↑g.length : Int)) /\ (Jo a g -> gI
 a g) /\ (Jo a g -> eY g a)
abbrev fC (g : List Gau) (a : FSK) : Int := (gD g (gD (AJ g) a.s.to).toNat).st
abbrev AII (a : FSK) (g : List Gau) : Bool := bif P6 a g then (gD g (gD (AJ g) a.n).toNat).st == fC g a else false
abbrev O3 (a : FSK) (a1 : FSK) : Prop := (↑a.s.fr : Int) = (↑a1.s.fr : Int)
abbrev AIL (a : FSK) (a1 : FSK) : Prop := (↑a.s.to : Int) = (↑a1.s.to : Int)
abbrev O2 (a : FSK) (a1 : FSK) : Prop := (↑a.n : Int) = IntKind.i64.wrap ((↑a1.n : Int) + (1 : Int))
abbrev AAD (a : FSK) (a1 : FSK) : Prop := a.s.ln.a0 = a1.s.ln.a0
abbrev S5 (a : FSK) (a1 : FSK) : Prop := a.s.ln.a1 = a1.s.ln.a1
abbrev U6 (a : FSK) (a1 : FSK) : Prop := a.s.ln.b0 = a1.s.ln.b0
abbrev AAZ (a : FSK) (a1 : FSK) : Prop := a.s.ln.b1 = a1.s.ln.b1
abbrev ABI (g : List Gau) (a : FSK) (a1 : FSK) : Prop := fE g a < fE g a1
abbrev AEH (a : FSK) : Prop := (↑a.n : Int) = (↑a.n : Int)
abbrev US (g : List Gau) : List Int := AD (AJ g).length λ (i : Nat) => gD (AJ g) i
abbrev XV (g : List Gau) : Nat := (US g).length
abbrev ABU (g : List Gau) : Prop := XV g = (AJ g).length
abbrev AAG (g : List Gau) (i : Nat) : Int := gD (US g) i
abbrev ADC (g : List Gau) : Prop := ∀ (i : Nat), i < XV g -> AAG g i = gD (AJ g) i
abbrev AHU (g : List Gau) : Prop := (AJ g).length = XV g
abbrev W7 (g : List Gau) : Prop := ∀ (i : Nat), i < (AJ g).length -> gD (AJ g) i = AAG g i
abbrev ABG (a : FSK) (g : List Gau) : Prop := (↑a.n : Int) <= (↑(XV g) : Int) /\ XV g < (1073741824 : Nat)
abbrev S0 (g : List Gau) : Prop := ∀ (x : Int), List.Mem x (US g) -> (0 : Int) <= x /\ x < (↑(SO g) : Int)
abbrev AGK (g : List Gau) (a : FSK) : List Gau := pkM (GPk.mk (OP g) (US g) (↑a.s.to : Int) (↑a.n : Int))
abbrev AFQ (g : List Gau) (a : FSK) : Nat := (AGK g a).length
abbrev Km (g : List Gau) (a : FSK) (i : Nat) : Gau := gD (AGK g a) i
abbrev Jf (g : List Gau) (a : FSK) : List Gau := AD (AFQ g a) λ (i : Nat) => Km g a i
abbrev gH (g : List Gau) (a : FSK) : Nat := (Jf g a).length
abbrev iX (g : List Gau) (a : FSK) (i : Nat) : Gau := gD (Jf g a) i
abbrev fY (g : Gau) : Prop := (0 : Int) <= g.st /\ g.st <= (2000 : Int) /\ (0 : Int) <= g.lo /\ g.lo <= g.hi /\ g.hi <= (200000 : Int)
abbrev AGW (a : FSK) (g : List Gau) : Prop := (↑a.s.to : Int) = (↑a.s.to : Int) /\ AEH a /\ ABU g /\ ADC g /\ Ak g /\ YV g /\ AHU g /\ W7 g /\ fS g /\ lP g /\ ((AJB a /\
 (↑a.s.to : Int) <= (↑a.n : Int) /\ ABG a g) /\ S0 g) /\ gH g a = AFQ g a /\ (∀ (i : Nat), i < gH g a -> (iX g a i).st = (Km g a i).st /\ (iX g a i).lo = (Km g a i).lo /\
 (iX g a i).hi = (Km g a i).hi) /\ gH g a < (1073741824 : Nat) /\ ∀ (g_1 : Gau), List.Mem g_1 (Jf g a) -> fY g_1
abbrev Z0 (g : List Gau) (a : FSK) : Bool := !(BL (Jf g a)).snd
abbrev Q7 (g : List Gau) : Prop := Bx g /\ Bx g /\ Hd g /\ Hd g /\ RL g /\ RL g /\ (BS g).e = (6 : Int)
abbrev AEC (a : FSK) : Prop := (0 : Int) <= (↑a.s.fr : Int)
abbrev T5 (a : FSK) : Prop := (↑a.s.fr : Int) <= (↑a.n : Int)
abbrev AGE (g : List Gau) (a : FSK) : List Gau := pkM (GPk.mk (OP g) (US g) (↑a.s.fr : Int) (↑a.n : Int))
abbrev AIE (g : List Gau) (a : FSK) : Nat := (AGE g a).length
abbrev Ga (g : List Gau) (a : FSK) (i : Nat) : Gau := gD (AGE g a) i
abbrev Hl (g : List Gau) (a : FSK) : List Gau := AD (AIE g a) λ (i : Nat) => Ga g a i
abbrev mE (g : List Gau) (a : FSK) : Nat := (Hl g a).length
abbrev eR (g : List Gau) (a : FSK) (i : Nat) : Gau := gD (Hl g a) i
abbrev AAY (a : FSK) (g : List Gau) : Prop := (↑a.s.fr : Int) = (↑a.s.fr : Int) /\ AEH a /\ ABU g /\ ADC g /\ Ak g /\ YV g /\ AHU g /\ W7 g /\ fS g /\ lP g /\ ((AEC a /\
 T5 a /\ ABG a g) /\ S0 g) /\ mE g a = AIE g a /\ (∀ (i : Nat), i < mE g a -> (eR g a i).st = (Ga g a i).st /\ (eR g a i).lo = (Ga g a i).lo /\ (eR g a i).hi =
 (Ga g a i).hi) /\ mE g a < (1073741824 : Nat) /\ ∀ (g_1 : Gau), List.Mem g_1 (Hl g a) -> fY g_1
abbrev R5 (g : List Gau) (a : FSK) : Ln × Bool := BL (Hl g a)
abbrev V2 (g : List Gau) (a : FSK) : Bool := (R5 g a).snd
abbrev AEU (a : FS) (a1 : FSK) : Prop := (↑a.fr : Int) = (↑a1.s.fr : Int)
abbrev S3 (a : FS) (a1 : FSK) : Prop := (↑a.to : Int) = (↑a1.n : Int)
abbrev TQ (g : List Gau) (a : FSK) : Ln := (R5 g a).fst
abbrev sY (a : FS) (g : List Gau) (a1 : FSK) : Prop := a.ln.a0 = (TQ g a1).a0
abbrev xF (a : FS) (g : List Gau) (a1 : FSK) : Prop := a.ln.a1 = (TQ g a1).a1
abbrev oO (a : FS) (g : List Gau) (a1 : FSK) : Prop := a.ln.b0 = (TQ g a1).b0
abbrev uJ (a : FS) (g : List Gau) (a1 : FSK) : Prop := a.ln.b1 = (TQ g a1).b1
abbrev Mu (g : List Gau) (a : FS) (a1 : FS) : Prop := Qy (AJ g) a < Qy (AJ g) a1
abbrev Le : Prop := (4 : Nat) = (4 : Nat)
abbrev Pw : Prop := gR /\ (Fj -> Le)
abbrev pX : Prop := (True /\ (AHC -> (0 : Nat) = (4 : Nat))) /\ Pw /\ gW /\ jC /\ (32 : Nat) <= (140737488355328 : Nat)
abbrev vK (a : FSK) (g : List Gau) : Prop := AEC a /\ T5 a /\ (↑a.n : Int) <= (↑(AJ g).length : Int)
abbrev oC (a : FSK) : Nat := a.n - a.s.fr
abbrev mR (g : List Gau) (a : FSK) (i : Nat) : Int := gD (AJ g) (a.s.fr + i)
abbrev Nu (a : FSK) (g : List Gau) : List Int := AD (oC a) λ (i : Nat) => mR g a i
abbrev Oe (a : FSK) (g : List Gau) : Nat := (Nu a g).length
abbrev yF (a : FSK) (g : List Gau) : Prop := Oe a g = oC a
abbrev oE (a : FSK) (g : List Gau) : Prop := ∀ (i : Nat), i < Oe a g -> gD (Nu a g) i = mR g a i
abbrev yI (g : List Gau) (a : FSK) : Prop := (SO g < (1073741824 : Nat) /\ Oe a g < (1073741824 : Nat)) /\ ∀ (g_1 : Gau), List.Mem g_1 (OP g) -> fY g_1
abbrev nG (a : FS) : Prop := a.k.length = (1 : Nat)
abbrev uB (a : FS) (a1 : FSK) : Prop := (↑a.to : Int) = (↑a1.s.to : Int)
abbrev zH (a : FS) : Prop := a.b.length = (1 : Nat)
abbrev wO (a : FS) : Prop := a.l.length = (1 : Nat)
abbrev IW (a : FS) (i : Nat) : Nat := (gD a.k i).length
abbrev C2 (g : List Gau) (a : FSK) : List Int := TY (GK.mk (OP g) (Nu a g))
abbrev tD (g : List Gau) (a : FSK) : Nat := (C2 g a).length
abbrev VL (i : Nat) (a : FS) (i1 : Nat) : Prop := i < IW a i1
abbrev KX (a : FS) (i : Nat) (i1 : Nat) : Int := gD (gD a.k i) i1
abbrev zV (g : List Gau) (a : FSK) (i : Nat) : Int := gD (C2 g a) i
abbrev Pv (g : List Gau) (a : FS) (a1 : FS) : Prop := Kg g a /\ a.fr = a.to /\ Mu g a a1
abbrev mX (a : FS) (a1 : FS) : Prop := a.k.length = a1.k.length
abbrev qK (a : FS) (a1 : FS) : Prop := a.b.length = a1.b.length
abbrev nR (a : FS) (a1 : FS) : Prop := a.l.length = a1.l.length
abbrev yG (g : List Gau) (a : FS) (a1 : FS) : Prop := Kg g a /\ Mu g a a1
abbrev oV (g : List Gau) (a : FS) : Prop := ∀ (a_1 : FS), Pv g a_1 a -> ∃ (a_3 : FS), (AH /\ mX a_3 a_1 /\ (↑a_3.fr : Int) = (↑a_1.to : Int) /\ (↑a_3.to : Int) = (↑a_1.to : Int) /\ g.length =
 g.length /\ DU g /\ AH /\ AL /\ AH /\ AL /\ GO g /\ GQ g /\ AH /\ qK a_3 a_1 /\ AH /\ nR a_3 a_1 /\ a_3.ln.a0 = a_1.ln.a0 /\ a_3.ln.a1 = a_1.ln.a1 /\ a_3.ln.b0 =
 a_1.ln.b0 /\ a_3.ln.b1 = a_1.ln.b1 /\ qK a_3 a_1 /\ (∀ (i : Nat), i < a_3.b.length -> gD a_3.b i = gD a_1.b i) /\ nR a_3 a_1 /\ (∀ (i : Nat), i < a_3.l.length -> (gD a_3.l i).a0 = (gD a_1.l i).a0 /\ (gD a_3.l i).a1
 = (gD a_1.l i).a1 /\ (gD a_3.l i).b0 = (gD a_1.l i).b0 /\ (gD a_3.l i).b1 = (gD a_1.l i).b1) /\ mX a_3 a_1 /\ ∀ (i : Nat), i < a_3.k.length -> IW a_3 i = IW a_1 i /\ ∀ (i_1 : Nat), VL i_1 a_3 i ->
 KX a_3 i i_1 = KX a_1 i i_1) /\ yG g a_3 a
abbrev nZ (j : Nat) (g : List Gau) : Prop := j < (BS g).r.l.length
abbrev sR (g : List Gau) : Prop := (BS g).e = (0 : Int)
abbrev sM (a : FSK) (a1 : FS) : Prop := a.s.k.length = a1.k.length
abbrev qX (a : FSK) (a1 : FS) : Prop := a.s.b.length = a1.b.length
abbrev oD (a : FSK) (a1 : FS) : Prop := a.s.l.length = a1.l.length
abbrev Om (i : Nat) (a : FSK) : Prop := i < a.s.k.length
abbrev KM (a : FSK) (i : Nat) : Nat := (gD a.s.k i).length
abbrev rZ (i : Nat) (a : FSK) (i1 : Nat) : Prop := i < KM a i1
abbrev OZ (a : FSK) (i : Nat) (i1 : Nat) : Int := gD (gD a.s.k i) i1
abbrev rM (a : FSK) (a1 : FSK) : Prop := a.s.k.length = a1.s.k.length
abbrev A3 (a : FSK) (a1 : FSK) : Prop := a.s.b.length = a1.s.b.length
abbrev pU (a : FSK) (a1 : FSK) : Prop := a.s.l.length = a1.s.l.length
abbrev wX (a : FS) (a1 : FSK) : Prop := a.k.length = a1.s.k.length
abbrev vL (a : FS) (a1 : FSK) : Prop := a.b.length = a1.s.b.length
abbrev B5 (a : FS) (a1 : FSK) : Prop := a.l.length = a1.s.l.length
abbrev Mp (a : FSK) : Nat := a.s.b.length + (1 : Nat)
abbrev Mg (a : FSK) : Nat := a.s.l.length + (1 : Nat)
abbrev Qu (a : FSK) : Nat := a.s.k.length + (1 : Nat)
abbrev xQ (a : FS) (a1 : FSK) : Prop := a.k.length = Qu a1
abbrev C0 (a : FS) (a1 : FSK) : Prop := a.b.length = Mp a1
abbrev vE (a : FS) (a1 : FSK) : Prop := a.l.length = Mg a1
abbrev WK (i : Nat) (a : FSK) : Bool := decide (i < a.s.l.length)
abbrev uW (i : Nat) (a : FSK) : Bool := decide (Om i a)
abbrev OW (a : FS) : Nat := a.l.length + (1 : Nat)
abbrev TR (j : Nat) (a : FS) : Bool := decide (UA j < a.l.length)
abbrev UH (a : FS) (j : Nat) : Ln := gD a.l (UA j)
abbrev yC (g : List Gau) (j : Nat) : Nat := (gD (BS g).k j).length
abbrev A6 (a : FS) (j : Nat) : List Int := gD a.k (UA j)
theorem BTU (g : List Gau) : (BQQ g) = ((Ak g /\ YV g /\ SO g < (4611686018427387904 : Nat) /\ True) /\ bif ALH g != (0 : Int) then Bx g /\ Bx g /\ Hd g /\ Hd g /\ RL g /\
 RL g /\ (BS g).e = ALH g else ((∃ (a : One), (fP g /\ Int.ofNat (0 : Nat) = Int.ofNat (0 : Nat) /\ g.length = g.length /\ DU g /\ AH /\ AL /\ AH /\ AL /\ AH /\ AL) /\
 AK g = (0 : Int)) /\ (∀ (a : One), AK g = (0 : Int) -> bif decide ((↑(0 : Nat) : Int) < (↑g.length : Int)) then ADY /\ ∃ (a : Nat), (fP g /\ (↑a : Int) = IntKind.i64.wrap ((↑(0 : Nat) : Int) + (1 : Int)) /\
 g.length = g.length /\ DU g /\ AH /\ AL /\ AH /\ AL /\ AH /\ a = (1 : Nat) /\ a = (1 : Nat) /\ ∀ (i : Nat), i < a -> (↑i : Int) = (↑(0 : Nat) : Int)) /\ lR g a /\ fU g a < g.length +
 (1 : Nat) else False) /\ ∀ (a : Nat), lR g a -> bif decide ((↑a : Int) < (↑g.length : Int)) then ((a = a /\ ((0 : Nat) < a -> Ju)) /\ XZ /\ UJ /\ lW a <= (9223372036854775807 : Nat) /\ lW a *
 (8 : Nat) <= (140737488355328 : Nat)) /\ ∃ (a_2 : Nat), (fP g /\ (↑a_2 : Int) = IntKind.i64.wrap ((↑a : Int) + (1 : Int)) /\ g.length = g.length /\ DU g /\ AH /\ AL /\ AH /\ AL /\ AH /\
 AIU a_2 a /\ AIU a_2 a /\ ∀ (i : Nat), i < a_2 -> (↑i : Int) = bif decide (i < a) then (↑i : Int) else (↑a : Int)) /\ lR g a_2 /\ fU g a_2 < fU g a else ∃ (a_2 : One), (g.length = g.length /\
 DU g /\ AH /\ AL /\ AH /\ AL /\ AH /\ (ZI g.length).length = a /\ (ZI g.length).length = a /\ ∀ (i : Nat), i < (ZI g.length).length -> gD (ZI g.length) i = (↑i : Int)) /\ AK g = (0 :
 Int)) /\ ∀ (a : One), AK g = (0 : Int) -> ((AH /\ AEL g /\ AEL g /\ (∀ (i : Nat), ADF i g -> iH g i = gD (ZI g.length) i) /\ Ak g /\ YV g /\ fS g /\ lP g /\ XI g < (20 :
 Nat) /\ XI g < (1073741824 : Nat) /\ ∀ (i : Nat), ADF i g -> (0 : Int) <= iH g i /\ iH g i < (↑(SO g) : Int)) /\ ∃ (a : One), (g.length = g.length /\ DU g /\ AH /\ AL /\ AH /\
 AL /\ (AJ g).length = (ZI g.length).length /\ (0 : Nat) + (ZI g.length).length <= XI g /\ ∀ (j : Nat), j < (AJ g).length -> gD (AJ g) j = gD (stM (CV (OP g)) (fI g)) (UA j)) /\ AK g
 = (0 : Int)) /\ ∀ (a : One), AK g = (0 : Int) -> ((0 : Int) <= (0 : Int) /\ (0 : Int) <= (2000 : Int)) /\ (∃ (a : FS), (AH /\ AL /\ (↑a.fr : Int) = (0 : Int) /\ (↑a.to : Int) = (0 : Int) /\ g.length = g.length /\
 DU g /\ AH /\ AL /\ AH /\ AL /\ GO g /\ GQ g /\ AH /\ AL /\ AH /\ AL /\ a.ln.a0 = z_few_40.a0 /\ a.ln.a1 = z_few_40.a1 /\ a.ln.b0 = z_few_40.b0 /\ a.ln.b1 =
 z_few_40.b1) /\ fL g a) /\ (∀ (a : FS), fL g a -> bif ADZ a g then (∃ (a_2 : FSK), (AH /\ AL /\ U3 a_2 a /\ U5 a_2 a /\ ADH a_2 a /\ g.length = g.length /\ DU g /\ AH /\
 AL /\ AH /\ AL /\ GO g /\ GQ g /\ AH /\ AL /\ AH /\ AL /\ a_2.s.ln.a0 = a.ln.a0 /\ a_2.s.ln.a1 = a.ln.a1 /\ a_2.s.ln.b0 = a.ln.b0 /\ a_2.s.ln.b1 = a.ln.b1) /\ gE g a_2 a) /\
 ∀ (a_2 : FSK), gE g a_2 a -> AIH a_2 g /\ bif AII a_2 g then ∃ (a_4 : FSK), (AH /\ AL /\ O3 a_4 a_2 /\ AIL a_4 a_2 /\ O2 a_4 a_2 /\ g.length = g.length /\ DU g /\ AH /\
 AL /\ AH /\ AL /\ GO g /\ GQ g /\ AH /\ AL /\ AH /\ AL /\ AAD a_4 a_2 /\ S5 a_4 a_2 /\ U6 a_4 a_2 /\ AAZ a_4 a_2) /\ gE g a_4 a /\ ABI g a_4 a_2
 else AGW a_2 g /\ bif Z0 g a_2 then Q7 g else AAY a_2 g /\ bif V2 g a_2 then ∃ (a_4 : FS), (AH /\ AL /\ AEU a_4 a_2 /\ S3 a_4 a_2 /\ g.length = g.length /\ DU g /\
 AH /\ AL /\ AH /\ AL /\ GO g /\ GQ g /\ AH /\ AL /\ AH /\ AL /\ sY a_4 g a_2 /\ xF a_4 g a_2 /\ oO a_4 g a_2 /\ uJ a_4 g a_2) /\ fL g a_4 /\
 Mu g a_4 a else (gI a_2 g /\ eY g a_2 /\ ADY /\ pX) /\ ((vK a_2 g /\ Ak g /\ YV g /\ yF a_2 g /\ oE a_2 g /\ yI g a_2 /\ AFV /\ XZ /\ gW /\
 jC /\ (24 : Nat) <= (140737488355328 : Nat)) /\ ∃ (a_4 : FS), (AH /\ nG a_4 /\ uB a_4 a_2 /\ g.length = g.length /\ DU g /\ AH /\ AL /\ AH /\ AL /\ GO g /\ GQ g /\
 AH /\ zH a_4 /\ AH /\ wO a_4 /\ a_4.ln.a0 = a_2.s.ln.a0 /\ a_4.ln.a1 = a_2.s.ln.a1 /\ a_4.ln.b0 = a_2.s.ln.b0 /\ a_4.ln.b1 = a_2.s.ln.b1 /\ zH a_4 /\ (∀ (i : Nat), i < a_4.b.length -> gD a_4.b i =
 fC g a_2) /\ wO a_4 /\ (∀ (i : Nat), i < a_4.l.length -> (gD a_4.l i).a0 = a_2.s.ln.a0 /\ (gD a_4.l i).a1 = a_2.s.ln.a1 /\ (gD a_4.l i).b0 = a_2.s.ln.b0 /\ (gD a_4.l i).b1 = a_2.s.ln.b1) /\ nG a_4 /\ ∀ (i :
 Nat), i < a_4.k.length -> IW a_4 i = tD g a_2 /\ ∀ (i_1 : Nat), VL i_1 a_4 i -> KX a_4 i i_1 = zV g a_2 i_1) /\ Pv g a_4 a) /\ oV g a else pX /\ Bx g /\ Bx g /\
 (BS g).r.l.length = (1 : Nat) /\ gR /\ (∀ (j : Nat), nZ j g -> (gD (BS g).r.l j).a0 = a.ln.a0 /\ (gD (BS g).r.l j).a1 = a.ln.a1 /\ (gD (BS g).r.l j).b0 = a.ln.b0 /\ (gD (BS g).r.l j).b1 = a.ln.b1) /\
 RL g /\ RL g /\ sR g) /\ ∀ (a : FS), Kg g a -> bif ADZ a g then (∃ (a_2 : FSK), (AH /\ sM a_2 a /\ U3 a_2 a /\ U5 a_2 a /\ ADH a_2 a /\ g.length = g.length /\ DU g
 /\ AH /\ AL /\ AH /\ AL /\ GO g /\ GQ g /\ AH /\ qX a_2 a /\ AH /\ oD a_2 a /\ a_2.s.ln.a0 = a.ln.a0 /\ a_2.s.ln.a1 = a.ln.a1 /\ a_2.s.ln.b0 = a.ln.b0 /\ a_2.s.ln.b1 =
 a.ln.b1 /\ qX a_2 a /\ (∀ (i : Nat), i < a_2.s.b.length -> gD a_2.s.b i = gD a.b i) /\ oD a_2 a /\ (∀ (i : Nat), i < a_2.s.l.length -> (gD a_2.s.l i).a0 = (gD a.l i).a0 /\ (gD a_2.s.l i).a1 = (gD a.l i).a1 /\ (gD
 a_2.s.l i).b0 = (gD a.l i).b0 /\ (gD a_2.s.l i).b1 = (gD a.l i).b1) /\ sM a_2 a /\ ∀ (i : Nat), Om i a_2 -> KM a_2 i = IW a i /\ ∀ (i_1 : Nat), rZ i_1 a_2 i -> OZ a_2 i i_1 = KX
 a i i_1) /\ Im g a_2 a) /\ ∀ (a_2 : FSK), Im g a_2 a -> AIH a_2 g /\ bif AII a_2 g then ∃ (a_4 : FSK), (AH /\ rM a_4 a_2 /\ O3 a_4 a_2 /\ AIL a_4 a_2 /\ O2 a_4 a_2 /\ g.length =
 g.length /\ DU g /\ AH /\ AL /\ AH /\ AL /\ GO g /\ GQ g /\ AH /\ A3 a_4 a_2 /\ AH /\ pU a_4 a_2 /\ AAD a_4 a_2 /\ S5 a_4 a_2 /\ U6 a_4 a_2 /\
 AAZ a_4 a_2 /\ A3 a_4 a_2 /\ (∀ (i : Nat), i < a_4.s.b.length -> gD a_4.s.b i = gD a_2.s.b i) /\ pU a_4 a_2 /\ (∀ (i : Nat), i < a_4.s.l.length -> (gD a_4.s.l i).a0 = (gD a_2.s.l i).a0 /\ (gD a_4.s.l i).a1 =
 (gD a_2.s.l i).a1 /\ (gD a_4.s.l i).b0 = (gD a_2.s.l i).b0 /\ (gD a_4.s.l i).b1 = (gD a_2.s.l i).b1) /\ rM a_4 a_2 /\ ∀ (i : Nat), Om i a_4 -> KM a_4 i = KM a_2 i /\ ∀ (i_1 : Nat), rZ i_1 a_4
 i -> OZ a_4 i i_1 = OZ a_2 i i_1) /\ Im g a_4 a /\ ABI g a_4 a_2 else AGW a_2 g /\ bif Z0 g a_2 then Q7 g else AAY a_2 g /\ bif V2 g a_2 then ∃ (a_4 : FS), (AH /\
 wX a_4 a_2 /\ AEU a_4 a_2 /\ S3 a_4 a_2 /\ g.length = g.length /\ DU g /\ AH /\ AL /\ AH /\ AL /\ GO g /\ GQ g /\ AH /\ vL a_4 a_2 /\ AH /\ B5 a_4
 a_2 /\ sY a_4 g a_2 /\ xF a_4 g a_2 /\ oO a_4 g a_2 /\ uJ a_4 g a_2 /\ vL a_4 a_2 /\ (∀ (i : Nat), i < a_4.b.length -> gD a_4.b i = gD a_2.s.b i) /\ B5 a_4 a_2 /\ (∀ (i : Nat), i <
 a_4.l.length -> (gD a_4.l i).a0 = (gD a_2.s.l i).a0 /\ (gD a_4.l i).a1 = (gD a_2.s.l i).a1 /\ (gD a_4.l i).b0 = (gD a_2.s.l i).b0 /\ (gD a_4.l i).b1 = (gD a_2.s.l i).b1) /\ wX a_4 a_2 /\ ∀ (i : Nat), i < a_4.k.length ->
 IW a_4 i = KM a_2 i /\ ∀ (i_1 : Nat), VL i_1 a_4 i -> KX a_4 i i_1 = OZ a_2 i i_1) /\ yG g a_4 a else (gI a_2 g /\ eY g a_2 /\ ((a_2.s.b.length = a_2.s.b.length /\ ((0 :
 Nat) < a_2.s.b.length -> Ju)) /\ XZ /\ UJ /\ Mp a_2 <= (9223372036854775807 : Nat) /\ Mp a_2 * (8 : Nat) <= (140737488355328 : Nat)) /\ (a_2.s.l.length = a_2.s.l.length /\ ((0 : Nat) <
 a_2.s.l.length -> Le)) /\ Pw /\ UJ /\ Mg a_2 <= (9223372036854775807 : Nat) /\ Mg a_2 * (32 : Nat) <= (140737488355328 : Nat)) /\ ((vK a_2 g /\ Ak g /\ YV g /\ yF a_2 g /\
 oE a_2 g /\ yI g a_2 /\ (a_2.s.k.length = a_2.s.k.length /\ ((0 : Nat) < a_2.s.k.length -> Ju)) /\ XZ /\ UJ /\ Qu a_2 <= (9223372036854775807 : Nat) /\ Qu a_2 * (24 : Nat) <=
 (140737488355328 : Nat)) /\ ∃ (a_4 : FS), (AH /\ xQ a_4 a_2 /\ uB a_4 a_2 /\ g.length = g.length /\ DU g /\ AH /\ AL /\ AH /\ AL /\ GO g /\ GQ g /\ AH /\ C0
 a_4 a_2 /\ AH /\ vE a_4 a_2 /\ a_4.ln.a0 = a_2.s.ln.a0 /\ a_4.ln.a1 = a_2.s.ln.a1 /\ a_4.ln.b0 = a_2.s.ln.b0 /\ a_4.ln.b1 = a_2.s.ln.b1 /\ C0 a_4 a_2 /\ (∀ (i : Nat), i < a_4.b.length -> gD a_4.b i = bif
 decide (i < a_2.s.b.length) then gD a_2.s.b i else fC g a_2) /\ vE a_4 a_2 /\ (∀ (i : Nat), i < a_4.l.length -> ((gD a_4.l i).a0 = bif WK i a_2 then (gD a_2.s.l i).a0 else a_2.s.ln.a0) /\ ((gD a_4.l i).a1
 = bif WK i a_2 then (gD a_2.s.l i).a1 else a_2.s.ln.a1) /\ ((gD a_4.l i).b0 = bif WK i a_2 then (gD a_2.s.l i).b0 else a_2.s.ln.b0) /\ (gD a_4.l i).b1 = bif WK i a_2 then (gD a_2.s.l i).b1 else
 a_2.s.ln.b1) /\ xQ a_4 a_2 /\ ∀ (i : Nat), i < a_4.k.length -> (IW a_4 i = bif uW i a_2 then KM a_2 i else tD g a_2) /\ ∀ (i_1 : Nat), VL i_1 a_4 i -> KX a_4 i i_1 = bif
 uW i a_2 then OZ a_2 i i_1 else zV g a_2 i_1) /\ Pv g a_4 a) /\ oV g a else ((a.l.length = a.l.length /\ ((0 : Nat) < a.l.length -> Le)) /\ Pw /\ UJ /\ OW a <=
 (9223372036854775807 : Nat) /\ OW a * (32 : Nat) <= (140737488355328 : Nat)) /\ (BS g).r.b.length = a.b.length /\ (0 : Nat) + a.b.length <= a.b.length /\ (∀ (j : Nat), j < (BS g).r.b.length -> gD (BS g).r.b j = gD
 a.b (UA j)) /\ (BS g).r.l.length = OW a /\ (0 : Nat) + OW a <= OW a /\ (∀ (j : Nat), nZ j g -> ((gD (BS g).r.l j).a0 = bif TR j a then (UH a j).a0 else a.ln.a0) /\ ((gD (BS
 g).r.l j).a1 = bif TR j a then (UH a j).a1 else a.ln.a1) /\ ((gD (BS g).r.l j).b0 = bif TR j a then (UH a j).b0 else a.ln.b0) /\ (gD (BS g).r.l j).b1 = bif TR j a then (UH a
 j).b1 else a.ln.b1) /\ (BS g).k.length = a.k.length /\ (0 : Nat) + a.k.length <= a.k.length /\ (∀ (j : Nat), j < (BS g).k.length -> yC g j = (A6 a j).length /\ ∀ (i : Nat), i < yC g j -> gD (gD (BS
 g).k j) i = gD (A6 a j) i) /\ sR g) := by kernel_rfl
theorem SH (n : Nat) : (ZI n).length = n := by simp [ZI]
theorem BKR {n i : Nat} (h : i < n) : gD (ZI n) i = i := by simp [ZI, gD, List.getD_eq_getElem?_getD, h]
theorem AUX (g : List Gau) : (AJ g).Perm (ZI g.length) := BGG _ _
theorem AR (g : List Gau) : (AJ g).length = g.length := by rw [(AUX g).length_eq, SH]
theorem My {g : List Gau} {x : Int} (h : x ∈ AJ g) : 0 <= x /\ x < g.length := by
 have := (AUX g).mem_iff.1 h
 unfold ZI at this
 obtain ⟨i, hi, rfl⟩ := List.mem_map.1 this
 have := List.mem_range.1 hi
 exact ⟨Int.natCast_nonneg _, Int.ofNat_lt.2 this⟩
theorem nN {g : List Gau} {i : Nat} (h : i < g.length) : 0 <= gD (AJ g) i /\ gD (AJ g) i < g.length := My (EG (by rw [AR]; exact h))
theorem BAQ {l : List Int} {a b : Nat} (h : b <= l.length) : (AD (b - a) λ i => gD l (a + i)) = (l.take b).drop a := by
 apply BFJ
 ·rw [rng_length, List.length_drop, List.length_take]; omega
 ·intro i hi
  rw [rng_length] at hi
  rw [BCC _ _ _ hi, Bv]
  simp [gD, List.getD_eq_getElem?_getD, List.getElem?_take, show a + i < b by omega]
theorem BBI {g : List Gau} (hc : AK g = 0) (a b : Int) : (pkM ⟨g, AJ g, a, b⟩).length < 1073741824 /\ ∀ x ∈ pkM ⟨g, AJ g, a, b⟩, Dd x := by
 obtain ⟨⟨h1, h2⟩, h3⟩ := Gz hc
 refine ⟨?_, λ x hx => ?_⟩
 ·unfold pkM OH; rw [List.length_map, List.length_drop, List.length_take, AR]; omega
 ·unfold pkM at hx
  obtain ⟨i, hi, rfl⟩ := List.mem_map.1 hx
  have := My (AZG hi)
  exact h3 _ (EG (by omega))
theorem BJC {g : List Gau} {o : List Int} {t : Nat} : ∀ (n k : Nat), k <= nxK g o t n k /\ nxK g o t n k <= k + n
 | 0, k => ⟨Nat.le_refl _, Nat.le_refl _⟩
 | n + 1, k => by
  unfold nxK
  cases CV g (gD o k) == CV g (gD o t)
  ·exact ⟨Nat.le_refl _, by show k <= _; omega⟩
  ·have := BJC (g := g) (o := o) (t := t) n (k + 1); show k <= nxK g o t n (k + 1) /\ nxK g o t n (k + 1) <= _; omega
theorem BFD {g : List Gau} {t : Nat} (h : t < g.length) : t < Rh g (AJ g) t /\ Rh g (AJ g) t <= g.length := by
 unfold Rh
 rw [AR]
 obtain ⟨n, hn⟩ : ∃ n, g.length - t = n + 1 := ⟨g.length - t - 1, by omega⟩
 rw [hn]; unfold nxK
 rw [show (CV g (gD (AJ g) t) == CV g (gD (AJ g) t)) = true by simp]
 have := BJC (g := g) (o := AJ g) (t := t) n (t + 1)
 show t < nxK g (AJ g) t n (t + 1) /\ nxK g (AJ g) t n (t + 1) <= _
 omega
theorem Kb {g : List Gau} : ∀ (m n : Nat) (s : FS), s.fr <= s.to -> s.to <= g.length -> Qy (AJ g) s + 1 <= m -> Qy (AJ g) s + 1 <= n -> kS g (AJ g) m s = kS g (AJ g) n s
 | 0, _, _, _, _, h, _ => by omega
 | m + 1, 0, _, _, _, _, h => by omega
 | m + 1, n + 1, s, h0, h1, h2, h3 => by
  unfold kS
  by_cases hl : s.to < (AJ g).length
  ·rw [decide_eq_true hl]
   rw [AR] at hl
   have hx := BFD hl
   unfold Qy at h2 h3
   rw [AR] at h2 h3
   cases hq : (BL (pkR g (AJ g) s.to (Rh g (AJ g) s.to))).2
   ·rfl
   ·cases hr : (BL (pkR g (AJ g) s.fr (Rh g (AJ g) s.to))).2
    ·have hne : s.fr ≠ s.to := λ he => by rw [he, hq] at hr; cases hr
     rw [if_pos (by omega)] at h2 h3
     refine Kb m n (oF g (AJ g) s) (Nat.le_refl _) h1 ?_ ?_ <;> (unfold Qy oF; rw [AR]; simp only [Nat.lt_irrefl, if_false]; omega)
    ·refine Kb m n (goF g (AJ g) s) (by show s.fr <= Rh _ _ _; omega) hx.2 ?_ ?_ <;> (unfold Qy goF; rw [AR]; simp only []; split at h2 <;> split <;> omega)
  ·rw [decide_eq_false hl]; rfl
theorem BHA (g : List Gau) (o : List Int) (n : Nat) (s : FS) : kS g o (n + 1) s = bif decide (s.to < o.length) then (bif (BL (pkR g o s.to (Rh g o s.to))).2 then (bif (BL (pkR g o s.fr (Rh g o s.to))).2 then kS g o n (goF g o s) else kS g o n (oF g o s)) else ⟨⟨[], []⟩, [], 6⟩) else ⟨⟨s.b, s.l ++ [s.ln]⟩, s.k, 0⟩ := rfl
theorem BSP {g : List Gau} {s : FS} (h : F2 g s) (ht : ¬s.to < g.length) : BS g = ⟨⟨s.b, s.l ++ [s.ln]⟩, s.k, 0⟩ := by
 rw [h.2.2.2.2.2.2 _ (Nat.le_refl _)]; unfold kS; rw [decide_eq_false (by rw [AR]; exact ht)]; rfl
theorem BQO {g : List Gau} {s : FS} (h : F2 g s) (ht : s.to < g.length) (hq : (BL (pkR g (AJ g) s.to (Rh g (AJ g) s.to))).2 = false) : BS g = ⟨⟨[], []⟩, [], 6⟩ := by
 rw [h.2.2.2.2.2.2 _ (Nat.le_refl _)]; unfold kS; rw [decide_eq_true (by rw [AR]; exact ht), hq]; rfl
theorem F_go {g : List Gau} {s : FS} (h : F2 g s) (ht : s.to < g.length) (hq : (BL (pkR g (AJ g) s.to (Rh g (AJ g) s.to))).2 = true) (hr : (BL (pkR g (AJ g) s.fr (Rh g (AJ g) s.to))).2 = true) : F2 g (goF g (AJ g) s) /\ Qy (AJ g) (goF g (AJ g) s) < Qy (AJ g) s := by
 obtain ⟨h1, h2, h3, h4, h5, h6, h7⟩ := h
 have hx := BFD ht
 have hm : Qy (AJ g) (goF g (AJ g) s) < Qy (AJ g) s := by unfold Qy goF; rw [AR]; simp only []; split <;> split <;> omega
 refine ⟨⟨h1, by show s.fr <= Rh _ _ _; omega, hx.2, h4, h5, h6, λ m hm2 => ?_⟩, hm⟩
 rw [h7 (Qy (AJ g) s + 1) (Nat.le_refl _), BHA, decide_eq_true (by rw [AR]; exact ht), hq, hr]
 exact Kb (Qy (AJ g) s) m (goF g (AJ g) s) (by show s.fr <= Rh _ _ _; omega) hx.2 hm hm2
theorem BSB {g : List Gau} {s : FS} (h : F2 g s) (ht : s.to < g.length) (hq : (BL (pkR g (AJ g) s.to (Rh g (AJ g) s.to))).2 = true) (hr : (BL (pkR g (AJ g) s.fr (Rh g (AJ g) s.to))).2 = false) : F2 g (oF g (AJ g) s) /\ Qy (AJ g) (oF g (AJ g) s) < Qy (AJ g) s := by
 obtain ⟨h1, h2, h3, h4, h5, h6, h7⟩ := h
 have hx := BFD ht
 have hne : s.fr ≠ s.to := λ he => by rw [he, hq] at hr; cases hr
 have hm : Qy (AJ g) (oF g (AJ g) s) < Qy (AJ g) s := by unfold Qy oF; rw [AR]; simp only [Nat.lt_irrefl, if_false]; rw [if_pos (by omega)]; omega
 refine ⟨⟨h1, Nat.le_refl _, h3, by show (s.b ++ [_]).length <= s.to; simp; omega, by show (s.l ++ [_]).length = (s.b ++ [_]).length; simp; omega, by show (s.k ++ [_]).length = (s.b ++ [_]).length; simp; omega, λ m hm2 => ?_⟩, hm⟩
 rw [h7 (Qy (AJ g) s + 1) (Nat.le_refl _), BHA, decide_eq_true (by rw [AR]; exact ht), hq, hr]
 exact Kb (Qy (AJ g) s) m (oF g (AJ g) s) (Nat.le_refl _) h3 hm hm2
theorem BBX {g : List Gau} {t n : Nat} (hn : n < g.length) (h : CV g (gD (AJ g) n) = CV g (gD (AJ g) t)) : nxK g (AJ g) t (g.length - n) n = nxK g (AJ g) t (g.length - (n + 1)) (n + 1) := by
 obtain ⟨m, hm⟩ : ∃ m, g.length - n = m + 1 := ⟨g.length - n - 1, by omega⟩
 rw [hm, show g.length - (n + 1) = m by omega]
 conv => lhs; unfold nxK
 rw [show (CV g (gD (AJ g) n) == CV g (gD (AJ g) t)) = true by rw [h]; simp]; rfl
theorem BAH {g : List Gau} {t n : Nat} (hn : n <= g.length) (h : (bif decide (n < g.length) then CV g (gD (AJ g) n) == CV g (gD (AJ g) t) else false) = false) : nxK g (AJ g) t (g.length - n) n = n := by
 by_cases hl : n < g.length
 ·rw [decide_eq_true hl] at h
  have h : (CV g (gD (AJ g) n) == CV g (gD (AJ g) t)) = false := h
  obtain ⟨m, hm⟩ : ∃ m, g.length - n = m + 1 := ⟨g.length - n - 1, by omega⟩
  rw [hm]; unfold nxK; rw [h]; rfl
 ·rw [show g.length - n = 0 by omega]; rfl
theorem BQR {g : List Gau} {t n : Nat} (h : (bif decide (n < g.length) then CV g (gD (AJ g) n) == CV g (gD (AJ g) t) else false) = true) : n < g.length /\ CV g (gD (AJ g) n) = CV g (gD (AJ g) t) := by
 cases hd : decide (n < g.length) with
 | false => rw [hd] at h; cases h
 | true => rw [hd] at h; exact ⟨of_decide_eq_true hd, by simpa using h⟩
theorem BIE (l : List Int) (p : Int) (i : Nat) (hi : i < (l ++ [p]).length) : gD (l ++ [p]) i = bif decide (i < l.length) then gD l i else p := eG _ _ (by simpa using hi)
theorem BWS (g : List Gau) (hg : g.length < 20) : BQQ g := by
 rw [BTU]; delta OP SO Ak L8 AMC APD AOV YV ALH Bx Hd RL fP DU AH AL AHC AFV gR Fj Ju XZ gW jC ADY lR fU UJ lW AIU fI XI AEL ADF iH fS lP UA GO GQ z_few_40 Kg fL ADZ U3 U5 ADH fE Im gE Y8 P6 Jo AJB gI eY AIH fC AII O3 AIL O2 AAD S5 U6 AAZ ABI AEH US XV ABU AAG ADC AHU W7 ABG S0 AGK AFQ Km Jf gH iX fY AGW Z0 Q7 AEC T5 AGE AIE Ga Hl mE eR AAY R5 V2 AEU S3 TQ sY xF oO uJ Mu Le Pw pX vK oC mR Nu Oe yF oE yI nG uB zH wO IW C2 tD VL KX zV Pv mX qK nR yG oV nZ sR sM qX oD Om KM rZ OZ rM A3 pU wX vL B5 Mp Mg Qu xQ C0 vE WK uW OW TR UH yC A6; simp only [CC, eq_self, implies_true, forall_const, Int.ofNat_lt]
 have zz : ∀ n, BS g = ⟨⟨[], []⟩, [], n⟩ -> (BS g).r.b.length = 0 /\ (BS g).r.b.length = 0 /\ (BS g).r.l.length = 0 /\ (BS g).r.l.length = 0 /\ (BS g).k.length = 0 /\ (BS g).k.length = 0 /\ (BS g).e = n := λ n h => by rw [h]; exact ⟨rfl, rfl, rfl, rfl, rfl, rfl, rfl⟩
 refine ⟨by omega, λ he => ?_, λ he => ?_⟩
 ·refine zz _ ?_
  unfold BS; rw [show (AK g == 0) = false by simpa using he]; rfl
 ·have hc : AK g = 0 := by simpa using he
  have hck := Gz hc
  refine ⟨⟨⟨default, hc⟩, λ _ => ⟨λ h0 => ⟨⟨by omega, by omega, by omega, by omega, by omega⟩, 1, ⟨(BH (a := 0) (by omega)).symm, rfl, rfl, λ i hi => by rw [show i = 0 by omega]⟩, ⟨hc, by omega, by omega⟩, by omega⟩, λ h0 => by omega⟩, λ k ⟨_, k1, k2⟩ => ⟨λ hlt => ⟨⟨by omega, λ h => (by cases h), by omega, by omega⟩, k + 1, ⟨(BH (by omega)).symm, rfl, rfl, λ i hi => ?_⟩, ⟨hc, by omega, by omega⟩, by omega⟩, λ hge => ⟨default, ⟨?_, ?_, λ i hi => ?_⟩, hc⟩⟩⟩, λ _ => ⟨⟨⟨by rw [SH]; exact hg, by rw [SH]; omega, λ i hi => ?_⟩, default, ⟨?_, Nat.le_refl _, λ _ _ => rfl⟩, hc⟩, λ _ => ⟨⟨by omega, by omega⟩, ⟨ini0, ⟨rfl, rfl, rfl, rfl, rfl, rfl⟩, ⟨hc, Nat.le_refl _, Nat.zero_le _, Nat.le_refl _, rfl, rfl, λ m hm => ?_⟩, rfl, rfl, rfl⟩, λ s hs => ?_, λ s hs => ?_⟩⟩⟩
  ·by_cases h : i < k
   ·rw [decide_eq_true h]; rfl
   ·rw [decide_eq_false h, show i = k by omega]; rfl
  ·rw [SH]; omega
  ·rw [SH]; omega
  ·rw [SH] at hi; exact BKR hi
  ·rw [SH] at hi; rw [BKR hi]; omega
  ·rw [AR, SH]
  ·unfold BS; rw [show (AK g == 0) = true by rw [hc]; rfl]
   exact Kb _ _ _ (Nat.le_refl _) (Nat.zero_le _) (by unfold Qy ini0; rw [AR]; simp) hm
  ·obtain ⟨hI, hb, hl, hk⟩ : F2 g s /\ s.b = [] /\ s.l = [] /\ s.k = [] := hs
   refine ⟨λ ht => ?_, λ ht => ?_⟩
   ·have ht : s.to < g.length := by rw [AR] at ht; exact ht
    refine ⟨⟨⟨s, s.to⟩, ⟨rfl, rfl, rfl, rfl, rfl, rfl, rfl⟩, ⟨hI, rfl, ht, Nat.le_refl _, Nat.le_of_lt ht, ?_⟩, hb, hl, hk⟩, λ x hx => ?_⟩
    ·unfold Rh; rw [AR]
    ·obtain ⟨⟨xI, x1, x2, x3, x4, x5⟩, xb, xl, xk⟩ : AZD g (Qy (AJ g) s) x /\ x.s.b = [] /\ x.s.l = [] /\ x.s.k = [] := hx
     refine ⟨⟨λ h => ⟨by omega, by omega⟩, λ h => nN (by rw [AR] at h; exact h), λ h => ⟨by omega, by rw [AR]; omega⟩, λ _ => nN x2⟩, λ hq => ?_, λ hq => ?_⟩
     ·rw [AR] at hq
      obtain ⟨q1, q2⟩ := BQR hq
      exact ⟨⟨x.s, x.n + 1⟩, ⟨rfl, rfl, (BH (by omega)).symm, rfl, rfl, rfl, rfl⟩, ⟨⟨xI, x1, x2, by show x.s.to <= x.n + 1; omega, q1, x5.trans (BBX q1 q2)⟩, xb, xl, xk⟩, by show g.length - (x.n + 1) < _; omega⟩
     ·rw [AR] at hq
      have hn : Rh g (AJ g) x.s.to = x.n := x5.trans (BAH x4 hq)
      have e1 : pkM ⟨g, AJ g, x.s.to, x.n⟩ = pkR g (AJ g) x.s.to (Rh g (AJ g) x.s.to) := by rw [hn]; rfl
      have e2 : pkM ⟨g, AJ g, x.s.fr, x.n⟩ = pkR g (AJ g) x.s.fr (Rh g (AJ g) x.s.to) := by rw [hn]; rfl
      have hfr : x.s.fr <= x.s.to := xI.2.1
      have hbl : x.s.b.length <= x.s.fr := xI.2.2.2.1
      have hll : x.s.l.length = x.s.b.length := xI.2.2.2.2.1
      have hkl : x.s.k.length = x.s.b.length := xI.2.2.2.2.2.1
      refine ⟨⟨⟨⟨by omega, by omega, by rw [AR]; omega, by rw [AR]; omega⟩, λ _ h => My h⟩, BBI hc _ _⟩, λ hb1 => zz _ (BQO xI x2 (by rw [<- e1]; exact hb1)), λ hb1 => ⟨⟨⟨⟨by omega, by omega, by rw [AR]; omega, by rw [AR]; omega⟩, λ _ h => My h⟩, BBI hc _ _⟩, λ hb2 => ?_, λ hb2 => ?_⟩⟩
      ·obtain ⟨f1, f2⟩ := F_go xI x2 (by rw [<- e1]; exact hb1) (by rw [<- e2]; exact hb2)
       exact ⟨goF g (AJ g) x.s, ⟨rfl, by show ((Rh g (AJ g) x.s.to : Nat) : Int) = x.n; rw [hn], by rw [e2]; rfl, by rw [e2]; rfl, by rw [e2]; rfl, by rw [e2]; rfl⟩, ⟨f1, xb, xl, xk⟩, by rw [<- x1]; exact f2⟩
      ·obtain ⟨f1, f2⟩ := BSB xI x2 (by rw [<- e1]; exact hb1) (by rw [<- e2]; exact hb2)
       have eB : oF g (AJ g) x.s = ⟨x.s.to, x.s.to, x.s.ln, [CV g (gD (AJ g) x.s.to)], [x.s.ln], [TY ⟨g, ((AJ g).take x.n).drop x.s.fr⟩]⟩ := by unfold oF; rw [xb, xl, xk, hn]; rfl
       rw [eB] at f1 f2
       rw [BAQ (by rw [AR]; exact x4)]
       refine ⟨⟨⟨by omega, by rw [AR]; omega⟩, nN x2, ⟨by omega, by omega, by omega, by omega, by omega⟩, by omega, by omega, by omega, by omega, by omega⟩, ⟨⟨⟨by omega, by omega, by rw [AR]; omega⟩, λ i hi => ?_, ⟨⟨by omega, by omega⟩, hck.2⟩, by omega, by omega, by omega, by omega, by omega⟩, ⟨x.s.to, x.s.to, x.s.ln, [CV g (gD (AJ g) x.s.to)], [x.s.ln], [TY ⟨g, ((AJ g).take x.n).drop x.s.fr⟩]⟩, ⟨rfl, rfl, rfl, rfl, rfl, rfl, rfl, rfl, rfl, λ i hi => (by rw [show i = 0 by have h1 : i < 1 := hi; omega]; rfl), rfl, oneL _, rfl, λ i hi => (by rw [show i = 0 by have h1 : i < 1 := hi; omega]; exact ⟨rfl, λ _ _ => rfl⟩)⟩, f1, rfl, by rw [<- x1]; exact f2⟩, λ y ⟨y1, y2, y3⟩ => ⟨y, ⟨rfl, by rw [y2], rfl, rfl, rfl, rfl, rfl, rfl, rfl, rfl, λ _ _ => rfl, rfl, λ _ _ => ⟨rfl, rfl, rfl, rfl⟩, rfl, λ _ _ => ⟨rfl, λ _ _ => rfl⟩⟩, y1, y3⟩⟩
       rw [Bv]; simp [gD, List.getD_eq_getElem?_getD, List.getElem?_take, show x.s.fr + i < x.n by omega]
   ·rw [AR] at ht
    rw [BSP hI ht, hb, hl, hk]
    exact ⟨⟨by omega, by omega, by omega, by omega, by omega⟩, rfl, rfl, rfl, by omega, oneL _, rfl, rfl, rfl⟩
  ·have hI : F2 g s := hs
   have hbl : s.b.length <= s.fr := hI.2.2.2.1
   have hll : s.l.length = s.b.length := hI.2.2.2.2.1
   have hkl : s.k.length = s.b.length := hI.2.2.2.2.2.1
   have hfr : s.fr <= s.to := hI.2.1
   have hto : s.to <= g.length := hI.2.2.1
   refine ⟨λ ht => ?_, λ ht => ?_⟩
   ·have ht : s.to < g.length := by rw [AR] at ht; exact ht
    refine ⟨⟨⟨s, s.to⟩, ⟨rfl, rfl, rfl, rfl, rfl, rfl, rfl, rfl, rfl, rfl, rfl, λ _ _ => rfl, rfl, λ _ _ => ⟨rfl, rfl, rfl, rfl⟩, rfl, λ _ _ => ⟨rfl, λ _ _ => rfl⟩⟩, hI, rfl, ht, Nat.le_refl _, Nat.le_of_lt ht, ?_⟩, λ x hx => ?_⟩
    ·unfold Rh; rw [AR]
    ·obtain ⟨xI, x1, x2, x3, x4, x5⟩ : AZD g (Qy (AJ g) s) x := hx
     refine ⟨⟨λ h => ⟨by omega, by omega⟩, λ h => nN (by rw [AR] at h; exact h), λ h => ⟨by omega, by rw [AR]; omega⟩, λ _ => nN x2⟩, λ hq => ?_, λ hq => ?_⟩
     ·rw [AR] at hq
      obtain ⟨q1, q2⟩ := BQR hq
      exact ⟨⟨x.s, x.n + 1⟩, ⟨rfl, rfl, rfl, (BH (by omega)).symm, rfl, rfl, rfl, rfl, rfl, rfl, rfl, λ _ _ => rfl, rfl, λ _ _ => ⟨rfl, rfl, rfl, rfl⟩, rfl, λ _ _ => ⟨rfl, λ _ _ => rfl⟩⟩, ⟨xI, x1, x2, by show x.s.to <= x.n + 1; omega, q1, x5.trans (BBX q1 q2)⟩, by show g.length - (x.n + 1) < _; omega⟩
     ·rw [AR] at hq
      have hn : Rh g (AJ g) x.s.to = x.n := x5.trans (BAH x4 hq)
      have e1 : pkM ⟨g, AJ g, x.s.to, x.n⟩ = pkR g (AJ g) x.s.to (Rh g (AJ g) x.s.to) := by rw [hn]; rfl
      have e2 : pkM ⟨g, AJ g, x.s.fr, x.n⟩ = pkR g (AJ g) x.s.fr (Rh g (AJ g) x.s.to) := by rw [hn]; rfl
      have hfr : x.s.fr <= x.s.to := xI.2.1
      have hbl : x.s.b.length <= x.s.fr := xI.2.2.2.1
      have hll : x.s.l.length = x.s.b.length := xI.2.2.2.2.1
      have hkl : x.s.k.length = x.s.b.length := xI.2.2.2.2.2.1
      refine ⟨⟨⟨⟨by omega, by omega, by rw [AR]; omega, by rw [AR]; omega⟩, λ _ h => My h⟩, BBI hc _ _⟩, λ hb1 => zz _ (BQO xI x2 (by rw [<- e1]; exact hb1)), λ hb1 => ⟨⟨⟨⟨by omega, by omega, by rw [AR]; omega, by rw [AR]; omega⟩, λ _ h => My h⟩, BBI hc _ _⟩, λ hb2 => ?_, λ hb2 => ?_⟩⟩
      ·obtain ⟨f1, f2⟩ := F_go xI x2 (by rw [<- e1]; exact hb1) (by rw [<- e2]; exact hb2)
       exact ⟨goF g (AJ g) x.s, ⟨rfl, rfl, by show ((Rh g (AJ g) x.s.to : Nat) : Int) = x.n; rw [hn], rfl, rfl, by rw [e2]; rfl, by rw [e2]; rfl, by rw [e2]; rfl, by rw [e2]; rfl, rfl, λ _ _ => rfl, rfl, λ _ _ => ⟨rfl, rfl, rfl, rfl⟩, rfl, λ _ _ => ⟨rfl, λ _ _ => rfl⟩⟩, f1, by rw [<- x1]; exact f2⟩
      ·obtain ⟨f1, f2⟩ := BSB xI x2 (by rw [<- e1]; exact hb1) (by rw [<- e2]; exact hb2)
       have eB : oF g (AJ g) x.s = ⟨x.s.to, x.s.to, x.s.ln, x.s.b ++ [CV g (gD (AJ g) x.s.to)], x.s.l ++ [x.s.ln], x.s.k ++ [TY ⟨g, ((AJ g).take x.n).drop x.s.fr⟩]⟩ := by unfold oF; rw [hn]
       rw [eB] at f1 f2
       rw [BAQ (by rw [AR]; exact x4)]
       refine ⟨⟨⟨by omega, by rw [AR]; omega⟩, nN x2, ⟨by omega, λ h => (by cases h), by omega⟩, by omega, λ h => (by cases h), by omega⟩, ⟨⟨⟨by omega, by omega, by rw [AR]; omega⟩, λ i hi => ?_, ⟨⟨by omega, by omega⟩, hck.2⟩, by omega, λ h => (by cases h), by omega⟩, ⟨x.s.to, x.s.to, x.s.ln, x.s.b ++ [CV g (gD (AJ g) x.s.to)], x.s.l ++ [x.s.ln], x.s.k ++ [TY ⟨g, ((AJ g).take x.n).drop x.s.fr⟩]⟩, ⟨by simp, rfl, by simp, by simp, rfl, rfl, rfl, rfl, by simp, BIE _ _, by simp, ATR _ _, by simp, λ i hi => ?_⟩, f1, rfl, by rw [<- x1]; exact f2⟩, λ y ⟨y1, y2, y3⟩ => ⟨y, ⟨rfl, by rw [y2], rfl, rfl, rfl, rfl, rfl, rfl, rfl, rfl, λ _ _ => rfl, rfl, λ _ _ => ⟨rfl, rfl, rfl, rfl⟩, rfl, λ _ _ => ⟨rfl, λ _ _ => rfl⟩⟩, y1, y3⟩⟩
       rw [Bv]; simp [gD, List.getD_eq_getElem?_getD, List.getElem?_take, show x.s.fr + i < x.n by omega]
       rw [eG _ _ (by simpa using hi)]
       cases decide (i < x.s.k.length) <;> exact ⟨rfl, λ _ _ => rfl⟩
   ·rw [AR] at ht
    rw [BSP hI ht]
    exact ⟨⟨by omega, λ h => (by cases h), by omega, by omega⟩, rfl, Nat.le_refl _, λ _ _ => rfl, by simp, by omega, ATR _ _, rfl, Nat.le_refl _, λ _ _ => ⟨rfl, λ _ _ => rfl⟩, rfl⟩
theorem BHO : AG Try.prog WO (C_few.spec JW) := GD C_few BSS [] [301, 303, 29064] BDT (λ _ => by kernel_rfl) (λ _ => AB VK (AB BWK (AB RU (AB BYI (AB xG (AB BCA (AB BYM AE))))))) (λ (g : List Gau) h => BWS g (show g.length < 20 /\ True from h).1) (λ _ => GJ rfl rfl) _
end Go.Bal
