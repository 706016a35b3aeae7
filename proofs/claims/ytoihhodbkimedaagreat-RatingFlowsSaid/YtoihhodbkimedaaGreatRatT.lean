/- Package rating: the fewest parts. -/
import Derived.Test.YtoihhodbkimedaaGreatRatT0
set_option linter.unusedVariables false
set_option linter.unusedSimpArgs false
namespace Go.Bal
open Go Go.Sym Go.Proofs
def eLL (l : List (List Int)) : DVal := lst 1 l.length λ i => BC (gD l i)
def CWT (l : List (List Int)) : AObj := .row 1 l.length λ i => BC (gD l i)
structure FS where
 fr : Nat
 to : Nat
 ln : Ln
 b : List Int
 l : List Ln
 k : List (List Int)
 deriving Inhabited
def WI (n : Nat) : List Int := (List.range n).map Int.ofNat
def AJ (g : List Gau) : List Int := stM (CP g) (WI g.length)
def nxK (g : List Gau) (o : List Int) (t : Nat) : Nat -> Nat -> Nat
 | 0, k => k
 | n + 1, k => bif CP g (gD o k) == CP g (gD o t) then nxK g o t n (k + 1) else k
def UT (g : List Gau) (o : List Int) (t : Nat) : Nat := nxK g o t (o.length - t) t
def pkR (g : List Gau) (o : List Int) (a b : Nat) : List Gau := pkM ⟨g, o, a, b⟩
def sX (g : List Gau) (o : List Int) (s : FS) : FS := ⟨s.to, s.to, s.ln, s.b ++ [CP g (gD o s.to)], s.l ++ [s.ln], s.k ++ [WF ⟨g, (o.take (UT g o s.to)).drop s.fr⟩]⟩
def goF (g : List Gau) (o : List Int) (s : FS) : FS := ⟨s.fr, UT g o s.to, (BG (pkR g o s.fr (UT g o s.to))).1, s.b, s.l, s.k⟩
structure FR where
 r : Rtg
 k : List (List Int)
 e : Int
def sG (g : List Gau) (o : List Int) : Nat -> FS -> FR
 | 0, s => ⟨⟨s.b, s.l ++ [s.ln]⟩, s.k, 0⟩
 | n + 1, s => bif decide (s.to < o.length) then (bif (BG (pkR g o s.to (UT g o s.to))).2 then (bif (BG (pkR g o s.fr (UT g o s.to))).2 then sG g o n (goF g o s) else sG g o n (sX g o s)) else ⟨⟨[], []⟩, [], 6⟩) else ⟨⟨s.b, s.l ++ [s.ln]⟩, s.k, 0⟩
def ini0 : FS := ⟨0, 0, AL ⟨0, 0⟩, [], [], []⟩
def BZ (g : List Gau) : FR := bif AQ g == 0 then sG g (AJ g) (2 * g.length + 2) ini0 else ⟨⟨[], []⟩, [], AQ g⟩
def Yk (o : List Int) (s : FS) : Nat := 2 * (o.length - s.to) + (if s.fr < s.to then 1 else 0)
def invF (g : List Gau) (s : FS) : Prop := AQ g = 0 /\ s.fr <= s.to /\ s.to <= g.length /\ s.b.length <= s.fr /\ s.l.length = s.b.length /\ s.k.length = s.b.length /\ (∀ m, Yk (AJ g) s + 1 <= m -> BZ g = sG g (AJ g) m s)
def zRtg : HCell := .live (.box [.d Hr, .d Hr])
def lnBx (x : Ln) : HCell := .live (.box [.int x.a0, .int x.a1, .int x.b0, .int x.b1])
def fwN (g : List Gau) (k : Nat) : List (Nat × AVal) := [(1, .bptr 1000 0), (2, .bptr 1016 0), (6, .bptr 5000 0), (24, .int g.length), (25, .int k)]
def fw6n (g : List Gau) : Shape := { α := One, dflt := default, T := λ _ => ⟨fwN g 0, [(1000, .live (bxG g)), (1016, zRtg), (5000, .live (.box [.d Hr]))]⟩, inv := λ _ => AQ g = 0, meas := λ _ => g.length + 1 }
def fw6o (g : List Gau) : Shape := { α := Nat, dflt := 0, T := λ k => ⟨fwN g k, [(1000, .live (bxG g)), (1016, zRtg), (5000, .live (.box [.own 201 1 0 k])), (201, .live (.row 1 k λ i => CU i))]⟩, inv := λ k => AQ g = 0 /\ 1 <= k /\ k <= g.length, meas := λ k => g.length - k, again := [(201, 9048)] }
def fwB (g : List Gau) : List (Nat × HCell) := [(1000, .live (bxG g)), (1016, zRtg), (5000, .live (.box [.d (BC (AJ g))]))]
def fw10 (g : List Gau) : Shape := { α := One, dflt := default, T := λ _ => ⟨[(1, .bptr 1000 0), (2, .bptr 1016 0), (6, .bptr 5000 0)], [(1000, .live (bxG g)), (1016, zRtg), (5000, .live (.box [.own 201 1 0 (WI g.length).length])), (201, .live (rowI (WI g.length)))]⟩, inv := λ _ => AQ g = 0, meas := λ _ => 0 }
def fw11 (g : List Gau) : Shape := { α := One, dflt := default, T := λ _ => ⟨[(1, .bptr 1000 0), (2, .bptr 1016 0), (6, .bptr 5000 0)], fwB g⟩, inv := λ _ => AQ g = 0, meas := λ _ => 0, ffz := [201] }
def fwS (s : FS) (kv : AVal) : List (Nat × AVal) := [(1, .bptr 1000 0), (2, .bptr 1016 0), (6, .bptr 5000 0), (8, .bptr 12000 0), (9, kv), (10, .bptr 14032 0), (11, .int s.fr), (12, .int s.to)]
def fwSA (s : FS) : List (Nat × AVal) := fwS s (.d Hr)
def fwSB (s : FS) : List (Nat × AVal) := fwS s (.own 303 1 0 s.k.length)
def fwHA (g : List Gau) (s : FS) : List (Nat × HCell) := fwB g ++ [(12000, zRtg), (14032, lnBx s.ln)]
def fwHB (g : List Gau) (s : FS) : List (Nat × HCell) := fwB g ++ [(12000, .live (.box [.own 301 1 0 s.b.length, .own 302 4 0 s.l.length])), (14032, lnBx s.ln), (301, .live (rowI s.b)), (302, .live (rowL s.l)), (303, .live (CWT s.k))]
def fwA (g : List Gau) : Shape := { α := FS, dflt := default, T := λ s => ⟨fwSA s, fwHA g s⟩, inv := λ s => invF g s /\ s.b = [] /\ s.l = [] /\ s.k = [], meas := λ s => Yk (AJ g) s, tag := [0] }
def fwBb (g : List Gau) : Shape := { α := FS, dflt := default, T := λ s => ⟨fwSB s, fwHB g s⟩, inv := λ s => invF g s, meas := λ s => Yk (AJ g) s, tag := [1] }
structure FSK where
 s : FS
 n : Nat
 deriving Inhabited
def BTI (g : List Gau) (m : Nat) (x : FSK) : Prop := invF g x.s /\ Yk (AJ g) x.s = m /\ x.s.to < g.length /\ x.s.to <= x.n /\ x.n <= g.length /\ UT g (AJ g) x.s.to = nxK g (AJ g) x.s.to (g.length - x.n) x.n
def CUT (g : List Gau) (m : Nat) : Shape := { α := FSK, dflt := default, T := λ x => ⟨fwSA x.s ++ [(13, .int x.n)], fwHA g x.s⟩, inv := λ x => BTI g m x /\ x.s.b = [] /\ x.s.l = [] /\ x.s.k = [], meas := λ x => g.length - x.n }
def CUP (g : List Gau) (m : Nat) : Shape := { α := FSK, dflt := default, T := λ x => ⟨fwSB x.s ++ [(13, .int x.n)], fwHB g x.s⟩, inv := λ x => BTI g m x, meas := λ x => g.length - x.n }
def fw27 (g : List Gau) (m : Nat) : Shape := { α := FS, dflt := default, T := λ s => ⟨[(1, .bptr 1000 0), (2, .bptr 1016 0), (6, .bptr 5000 0), (8, .bptr 12000 0), (9, .own 303 1 0 s.k.length), (10, .bptr 14032 0), (12, .int s.to)], fwHB g s⟩, inv := λ s => invF g s /\ s.fr = s.to /\ Yk (AJ g) s < m, meas := λ _ => 0, first := [(301, 26176), (302, 26256), (303, 27128)] }
def C_few : Ctr := { α := List Gau, xs := λ g => [.d (AS g)], L := λ _ => [], val := λ g => .tup [.d (eRtg (BZ g).r), .d (eLL (BZ g).k), .int (BZ g).e], keep := λ _ => [], pre := λ g => [g.length < 20 /\ True] }
def COW (g : List Gau) : Ann := { ann 123 [(vL, C_Check.spec JM), (CAN, C_ss.spec dGLt), (Fc, Ve), (AAL, C_pk.spec dGPk), (Nw, C_isKnot.spec dGsK), (AKJ, C_line.spec dGsK), (ACM, C_kd.spec dGK)] with mt := λ id => id == 8 || id == 25 || id == 26 || id == 28, loops := λ id => if id = 6 then some [fw6n g, fw6o g] else if id = 15 then some [fwA g, fwBb g] else none, inner := λ gs id => if id = 17 then (if gs.getD 1 0 = 0 then some [CUT g (gs.getD 0 0)] else some [CUP g (gs.getD 0 0)]) else none, cut := λ id => if id = 10 then some [fw10 g] else if id = 11 then some [fw11 g] else none, cutIn := λ gs id => if id = 27 then some [fw27 g (gs.getD 0 0)] else none }
def CPO (g : List Gau) : Prop := AN Try.prog (COW g) AMI (AF AMI) (C_few.xs g) (AC []) (C_few.val g) [] [] [301, 303, 29064]
abbrev QU (g : List Gau) : List Gau := AE g.length λ (i : Nat) => gD g i
abbrev VQ (g : List Gau) : Nat := (QU g).length
abbrev Fl (g : List Gau) : Prop := VQ g = g.length
abbrev AGJ (g : List Gau) (i : Nat) : Gau := gD (QU g) i
abbrev BDZ (g : List Gau) (i : Nat) : Int := (AGJ g i).st
abbrev BEI (g : List Gau) (i : Nat) : Int := (AGJ g i).lo
abbrev BHZ (g : List Gau) (i : Nat) : Int := (AGJ g i).hi
abbrev Hs (g : List Gau) : Prop := ∀ (i : Nat), i < VQ g -> BDZ g i = (gD g i).st /\ BEI g i = (gD g i).lo /\ BHZ g i = (gD g i).hi
abbrev BCY (g : List Gau) : Int := AQ (QU g)
abbrev Dq (g : List Gau) : Prop := (BZ g).r.b.length = (0 : Nat)
abbrev Ll (g : List Gau) : Prop := (BZ g).r.l.length = (0 : Nat)
abbrev TP (g : List Gau) : Prop := (BZ g).k.length = (0 : Nat)
abbrev qQ (g : List Gau) : Prop := (↑g.length : Int) = (↑g.length : Int)
abbrev EK (g : List Gau) : Prop := ∀ (i : Nat), i < g.length -> (gD g i).st = (gD g i).st /\ (gD g i).lo = (gD g i).lo /\ (gD g i).hi = (gD g i).hi
abbrev AI : Prop := (0 : Nat) = (0 : Nat)
abbrev AM : Prop := ∀ (i : Nat), i < (0 : Nat) -> false = false
abbrev AMV : Prop := (0 : Nat) < (0 : Nat)
abbrev AUK : Prop := True /\ (AMV -> (0 : Nat) = (1 : Nat))
abbrev oY : Prop := (1 : Nat) <= (1 : Nat)
abbrev Nb : Prop := (0 : Nat) < (1 : Nat)
abbrev Pu : Prop := (1 : Nat) = (1 : Nat)
abbrev Bg : Prop := oY /\ (Nb -> Pu)
abbrev rG : Prop := true = true -> Nb
abbrev uF : Prop := (1 : Nat) <= (9223372036854775807 : Nat)
abbrev AXU : Prop := AUK /\ Bg /\ rG /\ uF /\ (8 : Nat) <= (140737488355328 : Nat)
abbrev qW (g : List Gau) (a : Nat) : Prop := AQ g = (0 : Int) /\ (1 : Nat) <= a /\ a <= g.length
abbrev rM (g : List Gau) (a : Nat) : Nat := g.length - a
abbrev XJ : Prop := false = true -> Nb
abbrev vT (a : Nat) : Nat := a + (1 : Nat)
abbrev AVQ (a : Nat) (a1 : Nat) : Prop := a = vT a1
abbrev tQ (g : List Gau) : List Int := AE (WI g.length).length λ (i : Nat) => gD (WI g.length) i
abbrev Cd (g : List Gau) : Nat := (tQ g).length
abbrev AMD (g : List Gau) : Prop := Cd g = (WI g.length).length
abbrev AXC (i : Nat) (g : List Gau) : Prop := i < Cd g
abbrev rN (g : List Gau) (i : Nat) : Int := gD (tQ g) i
abbrev uP (g : List Gau) : Prop := g.length = VQ g
abbrev qU (g : List Gau) : Prop := ∀ (i : Nat), i < g.length -> (gD g i).st = BDZ g i /\ (gD g i).lo = BEI g i /\ (gD g i).hi = BHZ g i
abbrev Ae (j : Nat) : Nat := (0 : Nat) + j
abbrev HW (g : List Gau) : Prop := (AJ g).length = (AJ g).length
abbrev IB (g : List Gau) : Prop := ∀ (i : Nat), i < (AJ g).length -> gD (AJ g) i = gD (AJ g) i
abbrev z_few_40 : Ln := AL (Pt.mk (0 : Int) (0 : Int))
abbrev Nj (g : List Gau) (a : FS) : Prop := AQ g = (0 : Int) /\ a.fr <= a.to /\ a.to <= g.length /\ a.b.length <= a.fr /\ a.l.length = a.b.length /\ a.k.length = a.b.length /\ ∀ (m : Nat), Yk (AJ g) a + (1 : Nat) <= m
 -> BZ g = sG g (AJ g) m a
abbrev sU (g : List Gau) (a : FS) : Prop := Nj g a /\ a.b = [] /\ a.l = [] /\ a.k = []
abbrev AWZ (a : FS) (g : List Gau) : Bool := decide ((↑a.to : Int) < (↑(AJ g).length : Int))
abbrev AMA (a : FSK) (a1 : FS) : Prop := (↑a.s.fr : Int) = (↑a1.fr : Int)
abbrev AOX (a : FSK) (a1 : FS) : Prop := (↑a.s.to : Int) = (↑a1.to : Int)
abbrev ARQ (a : FSK) (a1 : FS) : Prop := (↑a.n : Int) = (↑a1.to : Int)
abbrev qF (g : List Gau) (a : FSK) : Nat := g.length - a.n
abbrev Lq (g : List Gau) (a : FSK) (a1 : FS) : Prop := (AQ g = (0 : Int) /\ a.s.fr <= a.s.to /\ a.s.to <= g.length /\ a.s.b.length <= a.s.fr /\ a.s.l.length = a.s.b.length /\ a.s.k.length = a.s.b.length /\ ∀ (m : Nat),
 Yk (AJ g) a.s + (1 : Nat) <= m -> BZ g = sG g (AJ g) m a.s) /\ Yk (AJ g) a.s = Yk (AJ g) a1 /\ a.s.to < g.length /\ a.s.to <= a.n /\ a.n <= g.length /\ UT g (AJ g) a.s.to = nxK g (AJ g) a.s.to (qF g a)
 a.n
abbrev rJ (g : List Gau) (a : FSK) (a1 : FS) : Prop := Lq g a a1 /\ a.s.b = [] /\ a.s.l = [] /\ a.s.k = []
abbrev ATT (a : FSK) (g : List Gau) : Prop := (↑a.n : Int) < (↑(AJ g).length : Int)
abbrev AYW (a : FSK) (g : List Gau) : Bool := decide (ATT a g)
abbrev Nf (a : FSK) (g : List Gau) : Prop := AYW a g = true
abbrev AXQ (a : FSK) : Prop := (0 : Int) <= (↑a.s.to : Int)
abbrev sJ (a : FSK) (g : List Gau) : Prop := AXQ a /\ (↑a.s.to : Int) < (↑(AJ g).length : Int)
abbrev rZ (g : List Gau) (a : FSK) : Prop := (0 : Int) <= gD (AJ g) a.s.to /\ gD (AJ g) a.s.to < (↑g.length : Int)
abbrev AQY (a : FSK) (g : List Gau) : Prop := (Nf a g -> (0 : Int) <= (↑a.n : Int) /\ ATT a g) /\ (Nf a g -> (0 : Int) <= gD (AJ g) a.n /\ gD (AJ g) a.n < (↑g.length : Int)) /\ (Nf a g -> sJ
 a g) /\ (Nf a g -> rZ g a)
abbrev sL (g : List Gau) (a : FSK) : Int := (gD g (gD (AJ g) a.s.to).toNat).st
abbrev AVU (a : FSK) (g : List Gau) : Bool := bif AYW a g then (gD g (gD (AJ g) a.n).toNat).st == sL g a else false
abbrev AYJ (a : FSK) (a1 : FSK) : Prop := (↑a.s.fr : Int) = (↑a1.s.fr : Int)
abbrev ARB (a : FSK) (a1 : FSK) : Prop := (↑a.s.to : Int) = (↑a1.s.to : Int)
abbrev ARH (a : FSK) (a1 : FSK) : Prop := (↑a.n : Int) = IntKind.i64.wrap ((↑a1.n : Int) + (1 : Int))
abbrev AKU (a : FSK) (a1 : FSK) : Prop := a.s.ln.a0 = a1.s.ln.a0
abbrev AJY (a : FSK) (a1 : FSK) : Prop := a.s.ln.a1 = a1.s.ln.a1
abbrev AXN (a : FSK) (a1 : FSK) : Prop := a.s.ln.b0 = a1.s.ln.b0
abbrev AYG (a : FSK) (a1 : FSK) : Prop := a.s.ln.b1 = a1.s.ln.b1
abbrev AKC (g : List Gau) (a : FSK) (a1 : FSK) : Prop := qF g a < qF g a1
abbrev ATI (a : FSK) : Prop := (↑a.n : Int) = (↑a.n : Int)
abbrev WV (g : List Gau) : List Int := AE (AJ g).length λ (i : Nat) => gD (AJ g) i
abbrev ZH (g : List Gau) : Nat := (WV g).length
abbrev AZR (g : List Gau) : Prop := ZH g = (AJ g).length
abbrev AQN (g : List Gau) (i : Nat) : Int := gD (WV g) i
abbrev ARY (g : List Gau) : Prop := ∀ (i : Nat), i < ZH g -> AQN g i = gD (AJ g) i
abbrev AZK (g : List Gau) : Prop := (AJ g).length = ZH g
abbrev AQK (g : List Gau) : Prop := ∀ (i : Nat), i < (AJ g).length -> gD (AJ g) i = AQN g i
abbrev ASG (a : FSK) (g : List Gau) : Prop := (↑a.n : Int) <= (↑(ZH g) : Int) /\ ZH g < (1073741824 : Nat)
abbrev ASH (g : List Gau) : Prop := ∀ (x : Int), List.Mem x (WV g) -> (0 : Int) <= x /\ x < (↑(VQ g) : Int)
abbrev AMQ (g : List Gau) (a : FSK) : List Gau := pkM (GPk.mk (QU g) (WV g) (↑a.s.to : Int) (↑a.n : Int))
abbrev AQH (g : List Gau) (a : FSK) : Nat := (AMQ g a).length
abbrev Le (g : List Gau) (a : FSK) (i : Nat) : Gau := gD (AMQ g a) i
abbrev Lj (g : List Gau) (a : FSK) : List Gau := AE (AQH g a) λ (i : Nat) => Le g a i
abbrev vR (g : List Gau) (a : FSK) : Nat := (Lj g a).length
abbrev rF (g : List Gau) (a : FSK) (i : Nat) : Gau := gD (Lj g a) i
abbrev vH (g : Gau) : Prop := (0 : Int) <= g.st /\ g.st <= (2000 : Int) /\ (0 : Int) <= g.lo /\ g.lo <= g.hi /\ g.hi <= (200000 : Int)
abbrev AUS (a : FSK) (g : List Gau) : Prop := (↑a.s.to : Int) = (↑a.s.to : Int) /\ ATI a /\ AZR g /\ ARY g /\ Fl g /\ Hs g /\ AZK g /\ AQK g /\ uP g /\ qU g /\ ((AXQ a /\
 (↑a.s.to : Int) <= (↑a.n : Int) /\ ASG a g) /\ ASH g) /\ vR g a = AQH g a /\ (∀ (i : Nat), i < vR g a -> (rF g a i).st = (Le g a i).st /\ (rF g a i).lo = (Le g a i).lo /\
 (rF g a i).hi = (Le g a i).hi) /\ vR g a < (1073741824 : Nat) /\ ∀ (g_1 : Gau), List.Mem g_1 (Lj g a) -> vH g_1
abbrev AVF (g : List Gau) (a : FSK) : Bool := !(BG (Lj g a)).snd
abbrev AQV (g : List Gau) : Prop := Dq g /\ Dq g /\ Ll g /\ Ll g /\ TP g /\ TP g /\ (BZ g).e = (6 : Int)
abbrev APZ (a : FSK) : Prop := (0 : Int) <= (↑a.s.fr : Int)
abbrev AUW (a : FSK) : Prop := (↑a.s.fr : Int) <= (↑a.n : Int)
abbrev AKS (g : List Gau) (a : FSK) : List Gau := pkM (GPk.mk (QU g) (WV g) (↑a.s.fr : Int) (↑a.n : Int))
abbrev BAL (g : List Gau) (a : FSK) : Nat := (AKS g a).length
abbrev Nc (g : List Gau) (a : FSK) (i : Nat) : Gau := gD (AKS g a) i
abbrev Oh (g : List Gau) (a : FSK) : List Gau := AE (BAL g a) λ (i : Nat) => Nc g a i
abbrev oZ (g : List Gau) (a : FSK) : Nat := (Oh g a).length
abbrev vY (g : List Gau) (a : FSK) (i : Nat) : Gau := gD (Oh g a) i
abbrev ARP (a : FSK) (g : List Gau) : Prop := (↑a.s.fr : Int) = (↑a.s.fr : Int) /\ ATI a /\ AZR g /\ ARY g /\ Fl g /\ Hs g /\ AZK g /\ AQK g /\ uP g /\ qU g /\ ((APZ a /\
 AUW a /\ ASG a g) /\ ASH g) /\ oZ g a = BAL g a /\ (∀ (i : Nat), i < oZ g a -> (vY g a i).st = (Nc g a i).st /\ (vY g a i).lo = (Nc g a i).lo /\ (vY g a i).hi =
 (Nc g a i).hi) /\ oZ g a < (1073741824 : Nat) /\ ∀ (g_1 : Gau), List.Mem g_1 (Oh g a) -> vH g_1
abbrev AME (g : List Gau) (a : FSK) : Ln × Bool := BG (Oh g a)
abbrev AOS (g : List Gau) (a : FSK) : Bool := (AME g a).snd
abbrev AOW (a : FS) (a1 : FSK) : Prop := (↑a.fr : Int) = (↑a1.s.fr : Int)
abbrev ATF (a : FS) (a1 : FSK) : Prop := (↑a.to : Int) = (↑a1.n : Int)
abbrev Bb (g : List Gau) (a : FSK) : Ln := (AME g a).fst
abbrev C6 (a : FS) (g : List Gau) (a1 : FSK) : Prop := a.ln.a0 = (Bb g a1).a0
abbrev J1 (a : FS) (g : List Gau) (a1 : FSK) : Prop := a.ln.a1 = (Bb g a1).a1
abbrev AAV (a : FS) (g : List Gau) (a1 : FSK) : Prop := a.ln.b0 = (Bb g a1).b0
abbrev S5 (a : FS) (g : List Gau) (a1 : FSK) : Prop := a.ln.b1 = (Bb g a1).b1
abbrev Th (g : List Gau) (a : FS) (a1 : FS) : Prop := Yk (AJ g) a < Yk (AJ g) a1
abbrev Qn : Prop := (4 : Nat) = (4 : Nat)
abbrev Rm : Prop := oY /\ (Nb -> Qn)
abbrev ABH : Prop := (True /\ (AMV -> (0 : Nat) = (4 : Nat))) /\ Rm /\ rG /\ uF /\ (32 : Nat) <= (140737488355328 : Nat)
abbrev zT (a : FSK) (g : List Gau) : Prop := APZ a /\ AUW a /\ (↑a.n : Int) <= (↑(AJ g).length : Int)
abbrev AFB (a : FSK) : Nat := a.n - a.s.fr
abbrev yJ (g : List Gau) (a : FSK) (i : Nat) : Int := gD (AJ g) (a.s.fr + i)
abbrev Qr (a : FSK) (g : List Gau) : List Int := AE (AFB a) λ (i : Nat) => yJ g a i
abbrev Ux (a : FSK) (g : List Gau) : Nat := (Qr a g).length
abbrev AEO (a : FSK) (g : List Gau) : Prop := Ux a g = AFB a
abbrev N8 (a : FSK) (g : List Gau) : Prop := ∀ (i : Nat), i < Ux a g -> gD (Qr a g) i = yJ g a i
abbrev AEM (g : List Gau) (a : FSK) : Prop := (VQ g < (1073741824 : Nat) /\ Ux a g < (1073741824 : Nat)) /\ ∀ (g_1 : Gau), List.Mem g_1 (QU g) -> vH g_1
abbrev P2 (a : FS) : Prop := a.k.length = (1 : Nat)
abbrev F3 (a : FS) (a1 : FSK) : Prop := (↑a.to : Int) = (↑a1.s.to : Int)
abbrev A6 (a : FS) : Prop := a.b.length = (1 : Nat)
abbrev G8 (a : FS) : Prop := a.l.length = (1 : Nat)
abbrev KV (a : FS) (i : Nat) : Nat := (gD a.k i).length
abbrev U3 (g : List Gau) (a : FSK) : List Int := WF (GK.mk (QU g) (Qr a g))
abbrev C2 (g : List Gau) (a : FSK) : Nat := (U3 g a).length
abbrev Be (i : Nat) (a : FS) (i1 : Nat) : Prop := i < KV a i1
abbrev NS (a : FS) (i : Nat) (i1 : Nat) : Int := gD (gD a.k i) i1
abbrev zI (g : List Gau) (a : FSK) (i : Nat) : Int := gD (U3 g a) i
abbrev Qw (g : List Gau) (a : FS) (a1 : FS) : Prop := Nj g a /\ a.fr = a.to /\ Th g a a1
abbrev M5 (a : FS) (a1 : FS) : Prop := a.k.length = a1.k.length
abbrev V5 (a : FS) (a1 : FS) : Prop := a.b.length = a1.b.length
abbrev A8 (a : FS) (a1 : FS) : Prop := a.l.length = a1.l.length
abbrev K5 (g : List Gau) (a : FS) (a1 : FS) : Prop := Nj g a /\ Th g a a1
abbrev H5 (g : List Gau) (a : FS) : Prop := ∀ (a_1 : FS), Qw g a_1 a -> ∃ (a_3 : FS), (AI /\ M5 a_3 a_1 /\ (↑a_3.fr : Int) = (↑a_1.to : Int) /\ (↑a_3.to : Int) = (↑a_1.to : Int) /\ g.length =
 g.length /\ EK g /\ AI /\ AM /\ AI /\ AM /\ HW g /\ IB g /\ AI /\ V5 a_3 a_1 /\ AI /\ A8 a_3 a_1 /\ a_3.ln.a0 = a_1.ln.a0 /\ a_3.ln.a1 = a_1.ln.a1 /\ a_3.ln.b0 =
 a_1.ln.b0 /\ a_3.ln.b1 = a_1.ln.b1 /\ V5 a_3 a_1 /\ (∀ (i : Nat), i < a_3.b.length -> gD a_3.b i = gD a_1.b i) /\ A8 a_3 a_1 /\ (∀ (i : Nat), i < a_3.l.length -> (gD a_3.l i).a0 = (gD a_1.l i).a0 /\ (gD a_3.l i).a1
 = (gD a_1.l i).a1 /\ (gD a_3.l i).b0 = (gD a_1.l i).b0 /\ (gD a_3.l i).b1 = (gD a_1.l i).b1) /\ M5 a_3 a_1 /\ ∀ (i : Nat), i < a_3.k.length -> KV a_3 i = KV a_1 i /\ ∀ (i_1 : Nat), Be i_1 a_3 i ->
 NS a_3 i i_1 = NS a_1 i i_1) /\ K5 g a_3 a
abbrev Y4 (j : Nat) (g : List Gau) : Prop := j < (BZ g).r.l.length
abbrev X3 (g : List Gau) : Prop := (BZ g).e = (0 : Int)
abbrev S2 (a : FSK) (a1 : FS) : Prop := a.s.k.length = a1.k.length
abbrev Q2 (a : FSK) (a1 : FS) : Prop := a.s.b.length = a1.b.length
abbrev D1 (a : FSK) (a1 : FS) : Prop := a.s.l.length = a1.l.length
abbrev Qz (i : Nat) (a : FSK) : Prop := i < a.s.k.length
abbrev NR (a : FSK) (i : Nat) : Nat := (gD a.s.k i).length
abbrev AAN (i : Nat) (a : FSK) (i1 : Nat) : Prop := i < NR a i1
abbrev RN (a : FSK) (i : Nat) (i1 : Nat) : Int := gD (gD a.s.k i) i1
abbrev F0 (a : FSK) (a1 : FSK) : Prop := a.s.k.length = a1.s.k.length
abbrev T7 (a : FSK) (a1 : FSK) : Prop := a.s.b.length = a1.s.b.length
abbrev Y1 (a : FSK) (a1 : FSK) : Prop := a.s.l.length = a1.s.l.length
abbrev ADT (a : FS) (a1 : FSK) : Prop := a.k.length = a1.s.k.length
abbrev ACD (a : FS) (a1 : FSK) : Prop := a.b.length = a1.s.b.length
abbrev E9 (a : FS) (a1 : FSK) : Prop := a.l.length = a1.s.l.length
abbrev Xb (a : FSK) : Nat := a.s.b.length + (1 : Nat)
abbrev Wa (a : FSK) : Nat := a.s.l.length + (1 : Nat)
abbrev Wi (a : FSK) : Nat := a.s.k.length + (1 : Nat)
abbrev L5 (a : FS) (a1 : FSK) : Prop := a.k.length = Wi a1
abbrev yF (a : FS) (a1 : FSK) : Prop := a.b.length = Xb a1
abbrev M6 (a : FS) (a1 : FSK) : Prop := a.l.length = Wa a1
abbrev ZR (i : Nat) (a : FSK) : Bool := decide (i < a.s.l.length)
abbrev ABL (i : Nat) (a : FSK) : Bool := decide (Qz i a)
abbrev RS (a : FS) : Nat := a.l.length + (1 : Nat)
abbrev Aa (j : Nat) (a : FS) : Bool := decide (Ae j < a.l.length)
abbrev WY (a : FS) (j : Nat) : Ln := gD a.l (Ae j)
abbrev N7 (g : List Gau) (j : Nat) : Nat := (gD (BZ g).k j).length
abbrev X2 (a : FS) (j : Nat) : List Int := gD a.k (Ae j)
theorem CRH (g : List Gau) : (CPO g) = ((Fl g /\ Hs g /\ VQ g < (4611686018427387904 : Nat) /\ True) /\ bif BCY g != (0 : Int) then Dq g /\ Dq g /\ Ll g /\ Ll g /\ TP g /\
 TP g /\ (BZ g).e = BCY g else ((∃ (a : One), (qQ g /\ Int.ofNat (0 : Nat) = Int.ofNat (0 : Nat) /\ g.length = g.length /\ EK g /\ AI /\ AM /\ AI /\ AM /\ AI /\ AM) /\
 AQ g = (0 : Int)) /\ (∀ (a : One), AQ g = (0 : Int) -> bif decide ((↑(0 : Nat) : Int) < (↑g.length : Int)) then AXU /\ ∃ (a : Nat), (qQ g /\ (↑a : Int) = IntKind.i64.wrap ((↑(0 : Nat) : Int) + (1 : Int)) /\
 g.length = g.length /\ EK g /\ AI /\ AM /\ AI /\ AM /\ AI /\ a = (1 : Nat) /\ a = (1 : Nat) /\ ∀ (i : Nat), i < a -> (↑i : Int) = (↑(0 : Nat) : Int)) /\ qW g a /\ rM g a < g.length +
 (1 : Nat) else False) /\ ∀ (a : Nat), qW g a -> bif decide ((↑a : Int) < (↑g.length : Int)) then ((a = a /\ ((0 : Nat) < a -> Pu)) /\ Bg /\ XJ /\ vT a <= (9223372036854775807 : Nat) /\ vT a *
 (8 : Nat) <= (140737488355328 : Nat)) /\ ∃ (a_2 : Nat), (qQ g /\ (↑a_2 : Int) = IntKind.i64.wrap ((↑a : Int) + (1 : Int)) /\ g.length = g.length /\ EK g /\ AI /\ AM /\ AI /\ AM /\ AI /\
 AVQ a_2 a /\ AVQ a_2 a /\ ∀ (i : Nat), i < a_2 -> (↑i : Int) = bif decide (i < a) then (↑i : Int) else (↑a : Int)) /\ qW g a_2 /\ rM g a_2 < rM g a else ∃ (a_2 : One), (g.length = g.length /\
 EK g /\ AI /\ AM /\ AI /\ AM /\ AI /\ (WI g.length).length = a /\ (WI g.length).length = a /\ ∀ (i : Nat), i < (WI g.length).length -> gD (WI g.length) i = (↑i : Int)) /\ AQ g = (0 :
 Int)) /\ ∀ (a : One), AQ g = (0 : Int) -> ((AI /\ AMD g /\ AMD g /\ (∀ (i : Nat), AXC i g -> rN g i = gD (WI g.length) i) /\ Fl g /\ Hs g /\ uP g /\ qU g /\ Cd g < (20 :
 Nat) /\ Cd g < (1073741824 : Nat) /\ ∀ (i : Nat), AXC i g -> (0 : Int) <= rN g i /\ rN g i < (↑(VQ g) : Int)) /\ ∃ (a : One), (g.length = g.length /\ EK g /\ AI /\ AM /\ AI /\
 AM /\ (AJ g).length = (WI g.length).length /\ (0 : Nat) + (WI g.length).length <= Cd g /\ ∀ (j : Nat), j < (AJ g).length -> gD (AJ g) j = gD (stM (CP (QU g)) (tQ g)) (Ae j)) /\ AQ g
 = (0 : Int)) /\ ∀ (a : One), AQ g = (0 : Int) -> ((0 : Int) <= (0 : Int) /\ (0 : Int) <= (2000 : Int)) /\ (∃ (a : FS), (AI /\ AM /\ (↑a.fr : Int) = (0 : Int) /\ (↑a.to : Int) = (0 : Int) /\ g.length = g.length /\
 EK g /\ AI /\ AM /\ AI /\ AM /\ HW g /\ IB g /\ AI /\ AM /\ AI /\ AM /\ a.ln.a0 = z_few_40.a0 /\ a.ln.a1 = z_few_40.a1 /\ a.ln.b0 = z_few_40.b0 /\ a.ln.b1 =
 z_few_40.b1) /\ sU g a) /\ (∀ (a : FS), sU g a -> bif AWZ a g then (∃ (a_2 : FSK), (AI /\ AM /\ AMA a_2 a /\ AOX a_2 a /\ ARQ a_2 a /\ g.length = g.length /\ EK g /\ AI /\
 AM /\ AI /\ AM /\ HW g /\ IB g /\ AI /\ AM /\ AI /\ AM /\ a_2.s.ln.a0 = a.ln.a0 /\ a_2.s.ln.a1 = a.ln.a1 /\ a_2.s.ln.b0 = a.ln.b0 /\ a_2.s.ln.b1 = a.ln.b1) /\ rJ g a_2 a) /\
 ∀ (a_2 : FSK), rJ g a_2 a -> AQY a_2 g /\ bif AVU a_2 g then ∃ (a_4 : FSK), (AI /\ AM /\ AYJ a_4 a_2 /\ ARB a_4 a_2 /\ ARH a_4 a_2 /\ g.length = g.length /\ EK g /\ AI /\
 AM /\ AI /\ AM /\ HW g /\ IB g /\ AI /\ AM /\ AI /\ AM /\ AKU a_4 a_2 /\ AJY a_4 a_2 /\ AXN a_4 a_2 /\ AYG a_4 a_2) /\ rJ g a_4 a /\ AKC g a_4 a_2
 else AUS a_2 g /\ bif AVF g a_2 then AQV g else ARP a_2 g /\ bif AOS g a_2 then ∃ (a_4 : FS), (AI /\ AM /\ AOW a_4 a_2 /\ ATF a_4 a_2 /\ g.length = g.length /\ EK g /\
 AI /\ AM /\ AI /\ AM /\ HW g /\ IB g /\ AI /\ AM /\ AI /\ AM /\ C6 a_4 g a_2 /\ J1 a_4 g a_2 /\ AAV a_4 g a_2 /\ S5 a_4 g a_2) /\ sU g a_4 /\
 Th g a_4 a else (sJ a_2 g /\ rZ g a_2 /\ AXU /\ ABH) /\ ((zT a_2 g /\ Fl g /\ Hs g /\ AEO a_2 g /\ N8 a_2 g /\ AEM g a_2 /\ AUK /\ Bg /\ rG /\
 uF /\ (24 : Nat) <= (140737488355328 : Nat)) /\ ∃ (a_4 : FS), (AI /\ P2 a_4 /\ F3 a_4 a_2 /\ g.length = g.length /\ EK g /\ AI /\ AM /\ AI /\ AM /\ HW g /\ IB g /\
 AI /\ A6 a_4 /\ AI /\ G8 a_4 /\ a_4.ln.a0 = a_2.s.ln.a0 /\ a_4.ln.a1 = a_2.s.ln.a1 /\ a_4.ln.b0 = a_2.s.ln.b0 /\ a_4.ln.b1 = a_2.s.ln.b1 /\ A6 a_4 /\ (∀ (i : Nat), i < a_4.b.length -> gD a_4.b i =
 sL g a_2) /\ G8 a_4 /\ (∀ (i : Nat), i < a_4.l.length -> (gD a_4.l i).a0 = a_2.s.ln.a0 /\ (gD a_4.l i).a1 = a_2.s.ln.a1 /\ (gD a_4.l i).b0 = a_2.s.ln.b0 /\ (gD a_4.l i).b1 = a_2.s.ln.b1) /\ P2 a_4 /\ ∀ (i :
 Nat), i < a_4.k.length -> KV a_4 i = C2 g a_2 /\ ∀ (i_1 : Nat), Be i_1 a_4 i -> NS a_4 i i_1 = zI g a_2 i_1) /\ Qw g a_4 a) /\ H5 g a else ABH /\ Dq g /\ Dq g /\
 (BZ g).r.l.length = (1 : Nat) /\ oY /\ (∀ (j : Nat), Y4 j g -> (gD (BZ g).r.l j).a0 = a.ln.a0 /\ (gD (BZ g).r.l j).a1 = a.ln.a1 /\ (gD (BZ g).r.l j).b0 = a.ln.b0 /\ (gD (BZ g).r.l j).b1 = a.ln.b1) /\
 TP g /\ TP g /\ X3 g) /\ ∀ (a : FS), Nj g a -> bif AWZ a g then (∃ (a_2 : FSK), (AI /\ S2 a_2 a /\ AMA a_2 a /\ AOX a_2 a /\ ARQ a_2 a /\ g.length = g.length /\ EK g
 /\ AI /\ AM /\ AI /\ AM /\ HW g /\ IB g /\ AI /\ Q2 a_2 a /\ AI /\ D1 a_2 a /\ a_2.s.ln.a0 = a.ln.a0 /\ a_2.s.ln.a1 = a.ln.a1 /\ a_2.s.ln.b0 = a.ln.b0 /\ a_2.s.ln.b1 =
 a.ln.b1 /\ Q2 a_2 a /\ (∀ (i : Nat), i < a_2.s.b.length -> gD a_2.s.b i = gD a.b i) /\ D1 a_2 a /\ (∀ (i : Nat), i < a_2.s.l.length -> (gD a_2.s.l i).a0 = (gD a.l i).a0 /\ (gD a_2.s.l i).a1 = (gD a.l i).a1 /\ (gD
 a_2.s.l i).b0 = (gD a.l i).b0 /\ (gD a_2.s.l i).b1 = (gD a.l i).b1) /\ S2 a_2 a /\ ∀ (i : Nat), Qz i a_2 -> NR a_2 i = KV a i /\ ∀ (i_1 : Nat), AAN i_1 a_2 i -> RN a_2 i i_1 = NS
 a i i_1) /\ Lq g a_2 a) /\ ∀ (a_2 : FSK), Lq g a_2 a -> AQY a_2 g /\ bif AVU a_2 g then ∃ (a_4 : FSK), (AI /\ F0 a_4 a_2 /\ AYJ a_4 a_2 /\ ARB a_4 a_2 /\ ARH a_4 a_2 /\ g.length =
 g.length /\ EK g /\ AI /\ AM /\ AI /\ AM /\ HW g /\ IB g /\ AI /\ T7 a_4 a_2 /\ AI /\ Y1 a_4 a_2 /\ AKU a_4 a_2 /\ AJY a_4 a_2 /\ AXN a_4 a_2 /\
 AYG a_4 a_2 /\ T7 a_4 a_2 /\ (∀ (i : Nat), i < a_4.s.b.length -> gD a_4.s.b i = gD a_2.s.b i) /\ Y1 a_4 a_2 /\ (∀ (i : Nat), i < a_4.s.l.length -> (gD a_4.s.l i).a0 = (gD a_2.s.l i).a0 /\ (gD a_4.s.l i).a1 =
 (gD a_2.s.l i).a1 /\ (gD a_4.s.l i).b0 = (gD a_2.s.l i).b0 /\ (gD a_4.s.l i).b1 = (gD a_2.s.l i).b1) /\ F0 a_4 a_2 /\ ∀ (i : Nat), Qz i a_4 -> NR a_4 i = NR a_2 i /\ ∀ (i_1 : Nat), AAN i_1 a_4
 i -> RN a_4 i i_1 = RN a_2 i i_1) /\ Lq g a_4 a /\ AKC g a_4 a_2 else AUS a_2 g /\ bif AVF g a_2 then AQV g else ARP a_2 g /\ bif AOS g a_2 then ∃ (a_4 : FS), (AI /\
 ADT a_4 a_2 /\ AOW a_4 a_2 /\ ATF a_4 a_2 /\ g.length = g.length /\ EK g /\ AI /\ AM /\ AI /\ AM /\ HW g /\ IB g /\ AI /\ ACD a_4 a_2 /\ AI /\ E9 a_4
 a_2 /\ C6 a_4 g a_2 /\ J1 a_4 g a_2 /\ AAV a_4 g a_2 /\ S5 a_4 g a_2 /\ ACD a_4 a_2 /\ (∀ (i : Nat), i < a_4.b.length -> gD a_4.b i = gD a_2.s.b i) /\ E9 a_4 a_2 /\ (∀ (i : Nat), i <
 a_4.l.length -> (gD a_4.l i).a0 = (gD a_2.s.l i).a0 /\ (gD a_4.l i).a1 = (gD a_2.s.l i).a1 /\ (gD a_4.l i).b0 = (gD a_2.s.l i).b0 /\ (gD a_4.l i).b1 = (gD a_2.s.l i).b1) /\ ADT a_4 a_2 /\ ∀ (i : Nat), i < a_4.k.length ->
 KV a_4 i = NR a_2 i /\ ∀ (i_1 : Nat), Be i_1 a_4 i -> NS a_4 i i_1 = RN a_2 i i_1) /\ K5 g a_4 a else (sJ a_2 g /\ rZ g a_2 /\ ((a_2.s.b.length = a_2.s.b.length /\ ((0 :
 Nat) < a_2.s.b.length -> Pu)) /\ Bg /\ XJ /\ Xb a_2 <= (9223372036854775807 : Nat) /\ Xb a_2 * (8 : Nat) <= (140737488355328 : Nat)) /\ (a_2.s.l.length = a_2.s.l.length /\ ((0 : Nat) <
 a_2.s.l.length -> Qn)) /\ Rm /\ XJ /\ Wa a_2 <= (9223372036854775807 : Nat) /\ Wa a_2 * (32 : Nat) <= (140737488355328 : Nat)) /\ ((zT a_2 g /\ Fl g /\ Hs g /\ AEO a_2 g /\
 N8 a_2 g /\ AEM g a_2 /\ (a_2.s.k.length = a_2.s.k.length /\ ((0 : Nat) < a_2.s.k.length -> Pu)) /\ Bg /\ XJ /\ Wi a_2 <= (9223372036854775807 : Nat) /\ Wi a_2 * (24 : Nat) <=
 (140737488355328 : Nat)) /\ ∃ (a_4 : FS), (AI /\ L5 a_4 a_2 /\ F3 a_4 a_2 /\ g.length = g.length /\ EK g /\ AI /\ AM /\ AI /\ AM /\ HW g /\ IB g /\ AI /\ yF
 a_4 a_2 /\ AI /\ M6 a_4 a_2 /\ a_4.ln.a0 = a_2.s.ln.a0 /\ a_4.ln.a1 = a_2.s.ln.a1 /\ a_4.ln.b0 = a_2.s.ln.b0 /\ a_4.ln.b1 = a_2.s.ln.b1 /\ yF a_4 a_2 /\ (∀ (i : Nat), i < a_4.b.length -> gD a_4.b i = bif
 decide (i < a_2.s.b.length) then gD a_2.s.b i else sL g a_2) /\ M6 a_4 a_2 /\ (∀ (i : Nat), i < a_4.l.length -> ((gD a_4.l i).a0 = bif ZR i a_2 then (gD a_2.s.l i).a0 else a_2.s.ln.a0) /\ ((gD a_4.l i).a1
 = bif ZR i a_2 then (gD a_2.s.l i).a1 else a_2.s.ln.a1) /\ ((gD a_4.l i).b0 = bif ZR i a_2 then (gD a_2.s.l i).b0 else a_2.s.ln.b0) /\ (gD a_4.l i).b1 = bif ZR i a_2 then (gD a_2.s.l i).b1 else
 a_2.s.ln.b1) /\ L5 a_4 a_2 /\ ∀ (i : Nat), i < a_4.k.length -> (KV a_4 i = bif ABL i a_2 then NR a_2 i else C2 g a_2) /\ ∀ (i_1 : Nat), Be i_1 a_4 i -> NS a_4 i i_1 = bif
 ABL i a_2 then RN a_2 i i_1 else zI g a_2 i_1) /\ Qw g a_4 a) /\ H5 g a else ((a.l.length = a.l.length /\ ((0 : Nat) < a.l.length -> Qn)) /\ Rm /\ XJ /\ RS a <=
 (9223372036854775807 : Nat) /\ RS a * (32 : Nat) <= (140737488355328 : Nat)) /\ (BZ g).r.b.length = a.b.length /\ (0 : Nat) + a.b.length <= a.b.length /\ (∀ (j : Nat), j < (BZ g).r.b.length -> gD (BZ g).r.b j = gD
 a.b (Ae j)) /\ (BZ g).r.l.length = RS a /\ (0 : Nat) + RS a <= RS a /\ (∀ (j : Nat), Y4 j g -> ((gD (BZ g).r.l j).a0 = bif Aa j a then (WY a j).a0 else a.ln.a0) /\ ((gD (BZ
 g).r.l j).a1 = bif Aa j a then (WY a j).a1 else a.ln.a1) /\ ((gD (BZ g).r.l j).b0 = bif Aa j a then (WY a j).b0 else a.ln.b0) /\ (gD (BZ g).r.l j).b1 = bif Aa j a then (WY a
 j).b1 else a.ln.b1) /\ (BZ g).k.length = a.k.length /\ (0 : Nat) + a.k.length <= a.k.length /\ (∀ (j : Nat), j < (BZ g).k.length -> N7 g j = (X2 a j).length /\ ∀ (i : Nat), i < N7 g j -> gD (gD (BZ
 g).k j) i = gD (X2 a j) i) /\ X3 g) := by kernel_rfl
theorem QN (n : Nat) : (WI n).length = n := by simp [WI]
theorem CIB {n i : Nat} (h : i < n) : gD (WI n) i = i := by simp [WI, gD, List.getD_eq_getElem?_getD, h]
theorem ART (g : List Gau) : (AJ g).Perm (WI g.length) := CJD _ _
theorem AT (g : List Gau) : (AJ g).length = g.length := by rw [(ART g).length_eq, QN]
theorem Tp {g : List Gau} {x : Int} (h : x ∈ AJ g) : 0 <= x /\ x < g.length := by
 have := (ART g).mem_iff.1 h
 unfold WI at this
 obtain ⟨i, hi, rfl⟩ := List.mem_map.1 this
 have := List.mem_range.1 hi
 exact ⟨Int.natCast_nonneg _, Int.ofNat_lt.2 this⟩
theorem lU {g : List Gau} {i : Nat} (h : i < g.length) : 0 <= gD (AJ g) i /\ gD (AJ g) i < g.length := Tp (BM (by rw [AT]; exact h))
theorem BTZ {l : List Int} {a b : Nat} (h : b <= l.length) : (AE (b - a) λ i => gD l (a + i)) = (l.take b).drop a := by
 apply CDV
 ·rw [rng_length, List.length_drop, List.length_take]; omega
 ·intro i hi
  rw [rng_length] at hi
  rw [BXM _ _ _ hi, QV]
  simp [gD, List.getD_eq_getElem?_getD, List.getElem?_take, show a + i < b by omega]
theorem BVB {g : List Gau} (hc : AQ g = 0) (a b : Int) : (pkM ⟨g, AJ g, a, b⟩).length < 1073741824 /\ ∀ x ∈ pkM ⟨g, AJ g, a, b⟩, DJ x := by
 obtain ⟨⟨h1, h2⟩, h3⟩ := Ci hc
 refine ⟨?_, λ x hx => ?_⟩
 ·unfold pkM QI; rw [List.length_map, List.length_drop, List.length_take, AT]; omega
 ·unfold pkM at hx
  obtain ⟨i, hi, rfl⟩ := List.mem_map.1 hx
  have := Tp (BXK hi)
  exact h3 _ (BM (by omega))
theorem CDN {g : List Gau} {o : List Int} {t : Nat} : ∀ (n k : Nat), k <= nxK g o t n k /\ nxK g o t n k <= k + n
 | 0, k => ⟨Nat.le_refl _, Nat.le_refl _⟩
 | n + 1, k => by
  unfold nxK
  cases CP g (gD o k) == CP g (gD o t)
  ·exact ⟨Nat.le_refl _, by show k <= _; omega⟩
  ·have := CDN (g := g) (o := o) (t := t) n (k + 1); show k <= nxK g o t n (k + 1) /\ nxK g o t n (k + 1) <= _; omega
theorem BCM {g : List Gau} {t : Nat} (h : t < g.length) : t < UT g (AJ g) t /\ UT g (AJ g) t <= g.length := by
 unfold UT
 rw [AT]
 obtain ⟨n, hn⟩ : ∃ n, g.length - t = n + 1 := ⟨g.length - t - 1, by omega⟩
 rw [hn]; unfold nxK
 rw [show (CP g (gD (AJ g) t) == CP g (gD (AJ g) t)) = true by simp]
 have := CDN (g := g) (o := AJ g) (t := t) n (t + 1)
 show t < nxK g (AJ g) t n (t + 1) /\ nxK g (AJ g) t n (t + 1) <= _
 omega
theorem Jp {g : List Gau} : ∀ (m n : Nat) (s : FS), s.fr <= s.to -> s.to <= g.length -> Yk (AJ g) s + 1 <= m -> Yk (AJ g) s + 1 <= n -> sG g (AJ g) m s = sG g (AJ g) n s
 | 0, _, _, _, _, h, _ => by omega
 | m + 1, 0, _, _, _, _, h => by omega
 | m + 1, n + 1, s, h0, h1, h2, h3 => by
  unfold sG
  by_cases hl : s.to < (AJ g).length
  ·rw [decide_eq_true hl]
   rw [AT] at hl
   have hx := BCM hl
   unfold Yk at h2 h3
   rw [AT] at h2 h3
   cases hq : (BG (pkR g (AJ g) s.to (UT g (AJ g) s.to))).2
   ·rfl
   ·cases hr : (BG (pkR g (AJ g) s.fr (UT g (AJ g) s.to))).2
    ·have hne : s.fr ≠ s.to := λ he => by rw [he, hq] at hr; cases hr
     rw [if_pos (by omega)] at h2 h3
     refine Jp m n (sX g (AJ g) s) (Nat.le_refl _) h1 ?_ ?_ <;> (unfold Yk sX; rw [AT]; simp only [Nat.lt_irrefl, if_false]; omega)
    ·refine Jp m n (goF g (AJ g) s) (by show s.fr <= UT _ _ _; omega) hx.2 ?_ ?_ <;> (unfold Yk goF; rw [AT]; simp only []; split at h2 <;> split <;> omega)
  ·rw [decide_eq_false hl]; rfl
theorem CAD (g : List Gau) (o : List Int) (n : Nat) (s : FS) : sG g o (n + 1) s = bif decide (s.to < o.length) then (bif (BG (pkR g o s.to (UT g o s.to))).2 then (bif (BG (pkR g o s.fr (UT g o s.to))).2 then sG g o n (goF g o s) else sG g o n (sX g o s)) else ⟨⟨[], []⟩, [], 6⟩) else ⟨⟨s.b, s.l ++ [s.ln]⟩, s.k, 0⟩ := rfl
theorem CQT {g : List Gau} {s : FS} (h : invF g s) (ht : ¬s.to < g.length) : BZ g = ⟨⟨s.b, s.l ++ [s.ln]⟩, s.k, 0⟩ := by
 rw [h.2.2.2.2.2.2 _ (Nat.le_refl _)]; unfold sG; rw [decide_eq_false (by rw [AT]; exact ht)]; rfl
theorem CPG {g : List Gau} {s : FS} (h : invF g s) (ht : s.to < g.length) (hq : (BG (pkR g (AJ g) s.to (UT g (AJ g) s.to))).2 = false) : BZ g = ⟨⟨[], []⟩, [], 6⟩ := by
 rw [h.2.2.2.2.2.2 _ (Nat.le_refl _)]; unfold sG; rw [decide_eq_true (by rw [AT]; exact ht), hq]; rfl
theorem F_go {g : List Gau} {s : FS} (h : invF g s) (ht : s.to < g.length) (hq : (BG (pkR g (AJ g) s.to (UT g (AJ g) s.to))).2 = true) (hr : (BG (pkR g (AJ g) s.fr (UT g (AJ g) s.to))).2 = true) : invF g (goF g (AJ g) s) /\ Yk (AJ g) (goF g (AJ g) s) < Yk (AJ g) s := by
 obtain ⟨h1, h2, h3, h4, h5, h6, h7⟩ := h
 have hx := BCM ht
 have hm : Yk (AJ g) (goF g (AJ g) s) < Yk (AJ g) s := by unfold Yk goF; rw [AT]; simp only []; split <;> split <;> omega
 refine ⟨⟨h1, by show s.fr <= UT _ _ _; omega, hx.2, h4, h5, h6, λ m hm2 => ?_⟩, hm⟩
 rw [h7 (Yk (AJ g) s + 1) (Nat.le_refl _), CAD, decide_eq_true (by rw [AT]; exact ht), hq, hr]
 exact Jp (Yk (AJ g) s) m (goF g (AJ g) s) (by show s.fr <= UT _ _ _; omega) hx.2 hm hm2
theorem CPE {g : List Gau} {s : FS} (h : invF g s) (ht : s.to < g.length) (hq : (BG (pkR g (AJ g) s.to (UT g (AJ g) s.to))).2 = true) (hr : (BG (pkR g (AJ g) s.fr (UT g (AJ g) s.to))).2 = false) : invF g (sX g (AJ g) s) /\ Yk (AJ g) (sX g (AJ g) s) < Yk (AJ g) s := by
 obtain ⟨h1, h2, h3, h4, h5, h6, h7⟩ := h
 have hx := BCM ht
 have hne : s.fr ≠ s.to := λ he => by rw [he, hq] at hr; cases hr
 have hm : Yk (AJ g) (sX g (AJ g) s) < Yk (AJ g) s := by unfold Yk sX; rw [AT]; simp only [Nat.lt_irrefl, if_false]; rw [if_pos (by omega)]; omega
 refine ⟨⟨h1, Nat.le_refl _, h3, by show (s.b ++ [_]).length <= s.to; simp; omega, by show (s.l ++ [_]).length = (s.b ++ [_]).length; simp; omega, by show (s.k ++ [_]).length = (s.b ++ [_]).length; simp; omega, λ m hm2 => ?_⟩, hm⟩
 rw [h7 (Yk (AJ g) s + 1) (Nat.le_refl _), CAD, decide_eq_true (by rw [AT]; exact ht), hq, hr]
 exact Jp (Yk (AJ g) s) m (sX g (AJ g) s) (Nat.le_refl _) h3 hm hm2
theorem BWO {g : List Gau} {t n : Nat} (hn : n < g.length) (h : CP g (gD (AJ g) n) = CP g (gD (AJ g) t)) : nxK g (AJ g) t (g.length - n) n = nxK g (AJ g) t (g.length - (n + 1)) (n + 1) := by
 obtain ⟨m, hm⟩ : ∃ m, g.length - n = m + 1 := ⟨g.length - n - 1, by omega⟩
 rw [hm, show g.length - (n + 1) = m by omega]
 conv => lhs; unfold nxK
 rw [show (CP g (gD (AJ g) n) == CP g (gD (AJ g) t)) = true by rw [h]; simp]; rfl
theorem BTG {g : List Gau} {t n : Nat} (hn : n <= g.length) (h : (bif decide (n < g.length) then CP g (gD (AJ g) n) == CP g (gD (AJ g) t) else false) = false) : nxK g (AJ g) t (g.length - n) n = n := by
 by_cases hl : n < g.length
 ·rw [decide_eq_true hl] at h
  have h : (CP g (gD (AJ g) n) == CP g (gD (AJ g) t)) = false := h
  obtain ⟨m, hm⟩ : ∃ m, g.length - n = m + 1 := ⟨g.length - n - 1, by omega⟩
  rw [hm]; unfold nxK; rw [h]; rfl
 ·rw [show g.length - n = 0 by omega]; rfl
theorem COQ {g : List Gau} {t n : Nat} (h : (bif decide (n < g.length) then CP g (gD (AJ g) n) == CP g (gD (AJ g) t) else false) = true) : n < g.length /\ CP g (gD (AJ g) n) = CP g (gD (AJ g) t) := by
 cases hd : decide (n < g.length) with
 | false => rw [hd] at h; cases h
 | true => rw [hd] at h; exact ⟨of_decide_eq_true hd, by simpa using h⟩
theorem CVC (l : List Int) (p : Int) (i : Nat) (hi : i < (l ++ [p]).length) : gD (l ++ [p]) i = bif decide (i < l.length) then gD l i else p := wG _ _ (by simpa using hi)
theorem CXB (g : List Gau) (hg : g.length < 20) : CPO g := by
 rw [CRH]; delta QU VQ Fl AGJ BDZ BEI BHZ Hs BCY Dq Ll TP qQ EK AI AM AMV AUK oY Nb Pu Bg rG uF AXU qW rM XJ vT AVQ tQ Cd AMD AXC rN uP qU Ae HW IB z_few_40 Nj sU AWZ AMA AOX ARQ qF Lq rJ ATT AYW Nf AXQ sJ rZ AQY sL AVU AYJ ARB ARH AKU AJY AXN AYG AKC ATI WV ZH AZR AQN ARY AZK AQK ASG ASH AMQ AQH Le Lj vR rF vH AUS AVF AQV APZ AUW AKS BAL Nc Oh oZ vY ARP AME AOS AOW ATF Bb C6 J1 AAV S5 Th Qn Rm ABH zT AFB yJ Qr Ux AEO N8 AEM P2 F3 A6 G8 KV U3 C2 Be NS zI Qw M5 V5 A8 K5 H5 Y4 X3 S2 Q2 D1 Qz NR AAN RN F0 T7 Y1 ADT ACD E9 Xb Wa Wi L5 yF M6 ZR ABL RS Aa WY N7 X2; simp only [CC, eq_self, implies_true, forall_const, Int.ofNat_lt]
 have zz : ∀ n, BZ g = ⟨⟨[], []⟩, [], n⟩ -> (BZ g).r.b.length = 0 /\ (BZ g).r.b.length = 0 /\ (BZ g).r.l.length = 0 /\ (BZ g).r.l.length = 0 /\ (BZ g).k.length = 0 /\ (BZ g).k.length = 0 /\ (BZ g).e = n := λ n h => by rw [h]; exact ⟨rfl, rfl, rfl, rfl, rfl, rfl, rfl⟩
 refine ⟨by omega, λ he => ?_, λ he => ?_⟩
 ·refine zz _ ?_
  unfold BZ; rw [show (AQ g == 0) = false by simpa using he]; rfl
 ·have hc : AQ g = 0 := by simpa using he
  have hck := Ci hc
  refine ⟨⟨⟨default, hc⟩, λ _ => ⟨λ h0 => ⟨⟨by omega, by omega, by omega, by omega, by omega⟩, 1, ⟨(BF (a := 0) (by omega)).symm, rfl, rfl, λ i hi => by rw [show i = 0 by omega]⟩, ⟨hc, by omega, by omega⟩, by omega⟩, λ h0 => by omega⟩, λ k ⟨_, k1, k2⟩ => ⟨λ hlt => ⟨⟨by omega, λ h => (by cases h), by omega, by omega⟩, k + 1, ⟨(BF (by omega)).symm, rfl, rfl, λ i hi => ?_⟩, ⟨hc, by omega, by omega⟩, by omega⟩, λ hge => ⟨default, ⟨?_, ?_, λ i hi => ?_⟩, hc⟩⟩⟩, λ _ => ⟨⟨⟨by rw [QN]; exact hg, by rw [QN]; omega, λ i hi => ?_⟩, default, ⟨?_, Nat.le_refl _, λ _ _ => rfl⟩, hc⟩, λ _ => ⟨⟨by omega, by omega⟩, ⟨ini0, ⟨rfl, rfl, rfl, rfl, rfl, rfl⟩, ⟨hc, Nat.le_refl _, Nat.zero_le _, Nat.le_refl _, rfl, rfl, λ m hm => ?_⟩, rfl, rfl, rfl⟩, λ s hs => ?_, λ s hs => ?_⟩⟩⟩
  ·by_cases h : i < k
   ·rw [decide_eq_true h]; rfl
   ·rw [decide_eq_false h, show i = k by omega]; rfl
  ·rw [QN]; omega
  ·rw [QN]; omega
  ·rw [QN] at hi; exact CIB hi
  ·rw [QN] at hi; rw [CIB hi]; omega
  ·rw [AT, QN]
  ·unfold BZ; rw [show (AQ g == 0) = true by rw [hc]; rfl]
   exact Jp _ _ _ (Nat.le_refl _) (Nat.zero_le _) (by unfold Yk ini0; rw [AT]; simp) hm
  ·obtain ⟨hI, hb, hl, hk⟩ : invF g s /\ s.b = [] /\ s.l = [] /\ s.k = [] := hs
   refine ⟨λ ht => ?_, λ ht => ?_⟩
   ·have ht : s.to < g.length := by rw [AT] at ht; exact ht
    refine ⟨⟨⟨s, s.to⟩, ⟨rfl, rfl, rfl, rfl, rfl, rfl, rfl⟩, ⟨hI, rfl, ht, Nat.le_refl _, Nat.le_of_lt ht, ?_⟩, hb, hl, hk⟩, λ x hx => ?_⟩
    ·unfold UT; rw [AT]
    ·obtain ⟨⟨xI, x1, x2, x3, x4, x5⟩, xb, xl, xk⟩ : BTI g (Yk (AJ g) s) x /\ x.s.b = [] /\ x.s.l = [] /\ x.s.k = [] := hx
     refine ⟨⟨λ h => ⟨by omega, by omega⟩, λ h => lU (by rw [AT] at h; exact h), λ h => ⟨by omega, by rw [AT]; omega⟩, λ _ => lU x2⟩, λ hq => ?_, λ hq => ?_⟩
     ·rw [AT] at hq
      obtain ⟨q1, q2⟩ := COQ hq
      exact ⟨⟨x.s, x.n + 1⟩, ⟨rfl, rfl, (BF (by omega)).symm, rfl, rfl, rfl, rfl⟩, ⟨⟨xI, x1, x2, by show x.s.to <= x.n + 1; omega, q1, x5.trans (BWO q1 q2)⟩, xb, xl, xk⟩, by show g.length - (x.n + 1) < _; omega⟩
     ·rw [AT] at hq
      have hn : UT g (AJ g) x.s.to = x.n := x5.trans (BTG x4 hq)
      have e1 : pkM ⟨g, AJ g, x.s.to, x.n⟩ = pkR g (AJ g) x.s.to (UT g (AJ g) x.s.to) := by rw [hn]; rfl
      have e2 : pkM ⟨g, AJ g, x.s.fr, x.n⟩ = pkR g (AJ g) x.s.fr (UT g (AJ g) x.s.to) := by rw [hn]; rfl
      have hfr : x.s.fr <= x.s.to := xI.2.1
      have hbl : x.s.b.length <= x.s.fr := xI.2.2.2.1
      have hll : x.s.l.length = x.s.b.length := xI.2.2.2.2.1
      have hkl : x.s.k.length = x.s.b.length := xI.2.2.2.2.2.1
      refine ⟨⟨⟨⟨by omega, by omega, by rw [AT]; omega, by rw [AT]; omega⟩, λ _ h => Tp h⟩, BVB hc _ _⟩, λ hb1 => zz _ (CPG xI x2 (by rw [<- e1]; exact hb1)), λ hb1 => ⟨⟨⟨⟨by omega, by omega, by rw [AT]; omega, by rw [AT]; omega⟩, λ _ h => Tp h⟩, BVB hc _ _⟩, λ hb2 => ?_, λ hb2 => ?_⟩⟩
      ·obtain ⟨f1, f2⟩ := F_go xI x2 (by rw [<- e1]; exact hb1) (by rw [<- e2]; exact hb2)
       exact ⟨goF g (AJ g) x.s, ⟨rfl, by show ((UT g (AJ g) x.s.to : Nat) : Int) = x.n; rw [hn], by rw [e2]; rfl, by rw [e2]; rfl, by rw [e2]; rfl, by rw [e2]; rfl⟩, ⟨f1, xb, xl, xk⟩, by rw [<- x1]; exact f2⟩
      ·obtain ⟨f1, f2⟩ := CPE xI x2 (by rw [<- e1]; exact hb1) (by rw [<- e2]; exact hb2)
       have eB : sX g (AJ g) x.s = ⟨x.s.to, x.s.to, x.s.ln, [CP g (gD (AJ g) x.s.to)], [x.s.ln], [WF ⟨g, ((AJ g).take x.n).drop x.s.fr⟩]⟩ := by unfold sX; rw [xb, xl, xk, hn]; rfl
       rw [eB] at f1 f2
       rw [BTZ (by rw [AT]; exact x4)]
       refine ⟨⟨⟨by omega, by rw [AT]; omega⟩, lU x2, ⟨by omega, by omega, by omega, by omega, by omega⟩, by omega, by omega, by omega, by omega, by omega⟩, ⟨⟨⟨by omega, by omega, by rw [AT]; omega⟩, λ i hi => ?_, ⟨⟨by omega, by omega⟩, hck.2⟩, by omega, by omega, by omega, by omega, by omega⟩, ⟨x.s.to, x.s.to, x.s.ln, [CP g (gD (AJ g) x.s.to)], [x.s.ln], [WF ⟨g, ((AJ g).take x.n).drop x.s.fr⟩]⟩, ⟨rfl, rfl, rfl, rfl, rfl, rfl, rfl, rfl, rfl, λ i hi => (by rw [show i = 0 by have h1 : i < 1 := hi; omega]; rfl), rfl, oneL _, rfl, λ i hi => (by rw [show i = 0 by have h1 : i < 1 := hi; omega]; exact ⟨rfl, λ _ _ => rfl⟩)⟩, f1, rfl, by rw [<- x1]; exact f2⟩, λ y ⟨y1, y2, y3⟩ => ⟨y, ⟨rfl, by rw [y2], rfl, rfl, rfl, rfl, rfl, rfl, rfl, rfl, λ _ _ => rfl, rfl, λ _ _ => ⟨rfl, rfl, rfl, rfl⟩, rfl, λ _ _ => ⟨rfl, λ _ _ => rfl⟩⟩, y1, y3⟩⟩
       rw [QV]; simp [gD, List.getD_eq_getElem?_getD, List.getElem?_take, show x.s.fr + i < x.n by omega]
   ·rw [AT] at ht
    rw [CQT hI ht, hb, hl, hk]
    exact ⟨⟨by omega, by omega, by omega, by omega, by omega⟩, rfl, rfl, rfl, by omega, oneL _, rfl, rfl, rfl⟩
  ·have hI : invF g s := hs
   have hbl : s.b.length <= s.fr := hI.2.2.2.1
   have hll : s.l.length = s.b.length := hI.2.2.2.2.1
   have hkl : s.k.length = s.b.length := hI.2.2.2.2.2.1
   have hfr : s.fr <= s.to := hI.2.1
   have hto : s.to <= g.length := hI.2.2.1
   refine ⟨λ ht => ?_, λ ht => ?_⟩
   ·have ht : s.to < g.length := by rw [AT] at ht; exact ht
    refine ⟨⟨⟨s, s.to⟩, ⟨rfl, rfl, rfl, rfl, rfl, rfl, rfl, rfl, rfl, rfl, rfl, λ _ _ => rfl, rfl, λ _ _ => ⟨rfl, rfl, rfl, rfl⟩, rfl, λ _ _ => ⟨rfl, λ _ _ => rfl⟩⟩, hI, rfl, ht, Nat.le_refl _, Nat.le_of_lt ht, ?_⟩, λ x hx => ?_⟩
    ·unfold UT; rw [AT]
    ·obtain ⟨xI, x1, x2, x3, x4, x5⟩ : BTI g (Yk (AJ g) s) x := hx
     refine ⟨⟨λ h => ⟨by omega, by omega⟩, λ h => lU (by rw [AT] at h; exact h), λ h => ⟨by omega, by rw [AT]; omega⟩, λ _ => lU x2⟩, λ hq => ?_, λ hq => ?_⟩
     ·rw [AT] at hq
      obtain ⟨q1, q2⟩ := COQ hq
      exact ⟨⟨x.s, x.n + 1⟩, ⟨rfl, rfl, rfl, (BF (by omega)).symm, rfl, rfl, rfl, rfl, rfl, rfl, rfl, λ _ _ => rfl, rfl, λ _ _ => ⟨rfl, rfl, rfl, rfl⟩, rfl, λ _ _ => ⟨rfl, λ _ _ => rfl⟩⟩, ⟨xI, x1, x2, by show x.s.to <= x.n + 1; omega, q1, x5.trans (BWO q1 q2)⟩, by show g.length - (x.n + 1) < _; omega⟩
     ·rw [AT] at hq
      have hn : UT g (AJ g) x.s.to = x.n := x5.trans (BTG x4 hq)
      have e1 : pkM ⟨g, AJ g, x.s.to, x.n⟩ = pkR g (AJ g) x.s.to (UT g (AJ g) x.s.to) := by rw [hn]; rfl
      have e2 : pkM ⟨g, AJ g, x.s.fr, x.n⟩ = pkR g (AJ g) x.s.fr (UT g (AJ g) x.s.to) := by rw [hn]; rfl
      have hfr : x.s.fr <= x.s.to := xI.2.1
      have hbl : x.s.b.length <= x.s.fr := xI.2.2.2.1
      have hll : x.s.l.length = x.s.b.length := xI.2.2.2.2.1
      have hkl : x.s.k.length = x.s.b.length := xI.2.2.2.2.2.1
      refine ⟨⟨⟨⟨by omega, by omega, by rw [AT]; omega, by rw [AT]; omega⟩, λ _ h => Tp h⟩, BVB hc _ _⟩, λ hb1 => zz _ (CPG xI x2 (by rw [<- e1]; exact hb1)), λ hb1 => ⟨⟨⟨⟨by omega, by omega, by rw [AT]; omega, by rw [AT]; omega⟩, λ _ h => Tp h⟩, BVB hc _ _⟩, λ hb2 => ?_, λ hb2 => ?_⟩⟩
      ·obtain ⟨f1, f2⟩ := F_go xI x2 (by rw [<- e1]; exact hb1) (by rw [<- e2]; exact hb2)
       exact ⟨goF g (AJ g) x.s, ⟨rfl, rfl, by show ((UT g (AJ g) x.s.to : Nat) : Int) = x.n; rw [hn], rfl, rfl, by rw [e2]; rfl, by rw [e2]; rfl, by rw [e2]; rfl, by rw [e2]; rfl, rfl, λ _ _ => rfl, rfl, λ _ _ => ⟨rfl, rfl, rfl, rfl⟩, rfl, λ _ _ => ⟨rfl, λ _ _ => rfl⟩⟩, f1, by rw [<- x1]; exact f2⟩
      ·obtain ⟨f1, f2⟩ := CPE xI x2 (by rw [<- e1]; exact hb1) (by rw [<- e2]; exact hb2)
       have eB : sX g (AJ g) x.s = ⟨x.s.to, x.s.to, x.s.ln, x.s.b ++ [CP g (gD (AJ g) x.s.to)], x.s.l ++ [x.s.ln], x.s.k ++ [WF ⟨g, ((AJ g).take x.n).drop x.s.fr⟩]⟩ := by unfold sX; rw [hn]
       rw [eB] at f1 f2
       rw [BTZ (by rw [AT]; exact x4)]
       refine ⟨⟨⟨by omega, by rw [AT]; omega⟩, lU x2, ⟨by omega, λ h => (by cases h), by omega⟩, by omega, λ h => (by cases h), by omega⟩, ⟨⟨⟨by omega, by omega, by rw [AT]; omega⟩, λ i hi => ?_, ⟨⟨by omega, by omega⟩, hck.2⟩, by omega, λ h => (by cases h), by omega⟩, ⟨x.s.to, x.s.to, x.s.ln, x.s.b ++ [CP g (gD (AJ g) x.s.to)], x.s.l ++ [x.s.ln], x.s.k ++ [WF ⟨g, ((AJ g).take x.n).drop x.s.fr⟩]⟩, ⟨by simp, rfl, by simp, by simp, rfl, rfl, rfl, rfl, by simp, CVC _ _, by simp, BLJ _ _, by simp, λ i hi => ?_⟩, f1, rfl, by rw [<- x1]; exact f2⟩, λ y ⟨y1, y2, y3⟩ => ⟨y, ⟨rfl, by rw [y2], rfl, rfl, rfl, rfl, rfl, rfl, rfl, rfl, λ _ _ => rfl, rfl, λ _ _ => ⟨rfl, rfl, rfl, rfl⟩, rfl, λ _ _ => ⟨rfl, λ _ _ => rfl⟩⟩, y1, y3⟩⟩
       rw [QV]; simp [gD, List.getD_eq_getElem?_getD, List.getElem?_take, show x.s.fr + i < x.n by omega]
       rw [wG _ _ (by simpa using hi)]
       cases decide (i < x.s.k.length) <;> exact ⟨rfl, λ _ _ => rfl⟩
   ·rw [AT] at ht
    rw [CQT hI ht]
    exact ⟨⟨by omega, λ h => (by cases h), by omega, by omega⟩, rfl, Nat.le_refl _, λ _ _ => rfl, by simp, by omega, BLJ _ _, rfl, Nat.le_refl _, λ _ _ => ⟨rfl, λ _ _ => rfl⟩, rfl⟩
theorem CBW : AG Try.prog WQ (C_few.spec JM) := HR C_few COW [] [301, 303, 29064] BXP (λ _ => by kernel_rfl) (λ _ => AB vN (AB CUX (AB TU (AB CUV (AB U1 (AB BWU (AB CWM AD))))))) (λ (g : List Gau) h => CXB g (show g.length < 20 /\ True from h).1) (λ _ => IN rfl rfl) _
end Go.Bal
