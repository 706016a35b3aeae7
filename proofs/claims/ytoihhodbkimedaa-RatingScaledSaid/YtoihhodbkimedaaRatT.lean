/- Package rating: the fewest parts. -/
import Derived.Test.YtoihhodbkimedaaRatT0
set_option linter.unusedVariables false
set_option linter.unusedSimpArgs false
namespace Go.Bal
open Go Go.Sym Go.Proofs
def eLL (l : List (List Int)) : DVal := lst 1 l.length λ i => BL (gD l i)
def CPW (l : List (List Int)) : AObj := .row 1 l.length λ i => BL (gD l i)
structure FS where
 fr : Nat
 to : Nat
 ln : Ln
 b : List Int
 l : List Ln
 k : List (List Int)
 deriving Inhabited
def WB (n : Nat) : List Int := (List.range n).map Int.ofNat
def AH (g : List Gau) : List Int := stM (CR g) (WB g.length)
def nxK (g : List Gau) (o : List Int) (t : Nat) : Nat -> Nat -> Nat
 | 0, k => k
 | n + 1, k => bif CR g (gD o k) == CR g (gD o t) then nxK g o t n (k + 1) else k
def QK (g : List Gau) (o : List Int) (t : Nat) : Nat := nxK g o t (o.length - t) t
def yK (g : List Gau) (o : List Int) (a b : Nat) : List Gau := pkM ⟨g, o, a, b⟩
def Jj (g : List Gau) (o : List Int) (s : FS) : FS := ⟨s.to, s.to, s.ln, s.b ++ [CR g (gD o s.to)], s.l ++ [s.ln], s.k ++ [VV ⟨g, (o.take (QK g o s.to)).drop s.fr⟩]⟩
def goF (g : List Gau) (o : List Int) (s : FS) : FS := ⟨s.fr, QK g o s.to, (BH (yK g o s.fr (QK g o s.to))).1, s.b, s.l, s.k⟩
structure FR where
 r : Rtg
 k : List (List Int)
 e : Int
def SH (g : List Gau) (o : List Int) : Nat -> FS -> FR
 | 0, s => ⟨⟨s.b, s.l ++ [s.ln]⟩, s.k, 0⟩
 | n + 1, s => bif decide (s.to < o.length) then (bif (BH (yK g o s.to (QK g o s.to))).2 then (bif (BH (yK g o s.fr (QK g o s.to))).2 then SH g o n (goF g o s) else SH g o n (Jj g o s)) else ⟨⟨[], []⟩, [], 6⟩) else ⟨⟨s.b, s.l ++ [s.ln]⟩, s.k, 0⟩
def ini0 : FS := ⟨0, 0, AL ⟨0, 0⟩, [], [], []⟩
def AU (g : List Gau) : FR := bif AT g == 0 then SH g (AH g) (2 * g.length + 2) ini0 else ⟨⟨[], []⟩, [], AT g⟩
def VZ (o : List Int) (s : FS) : Nat := 2 * (o.length - s.to) + (if s.fr < s.to then 1 else 0)
def invF (g : List Gau) (s : FS) : Prop := AT g = 0 /\ s.fr <= s.to /\ s.to <= g.length /\ s.b.length <= s.fr /\ s.l.length = s.b.length /\ s.k.length = s.b.length /\ (∀ m, VZ (AH g) s + 1 <= m -> AU g = SH g (AH g) m s)
def zRtg : HCell := .live (.box [.d PD, .d PD])
def lnBx (x : Ln) : HCell := .live (.box [.int x.a0, .int x.a1, .int x.b0, .int x.b1])
def fwN (g : List Gau) (k : Nat) : List (Nat × AVal) := [(1, .bptr 1000 0), (2, .bptr 1016 0), (6, .bptr 5000 0), (24, .int g.length), (25, .int k)]
def fw6n (g : List Gau) : Shape := { α := One, dflt := default, T := λ _ => ⟨fwN g 0, [(1000, .live (bxG g)), (1016, zRtg), (5000, .live (.box [.d PD]))]⟩, inv := λ _ => AT g = 0, meas := λ _ => g.length + 1 }
def fw6o (g : List Gau) : Shape := { α := Nat, dflt := 0, T := λ k => ⟨fwN g k, [(1000, .live (bxG g)), (1016, zRtg), (5000, .live (.box [.own 201 1 0 k])), (201, .live (.row 1 k λ i => CU i))]⟩, inv := λ k => AT g = 0 /\ 1 <= k /\ k <= g.length, meas := λ k => g.length - k, again := [(201, 9048)] }
def fwB (g : List Gau) : List (Nat × HCell) := [(1000, .live (bxG g)), (1016, zRtg), (5000, .live (.box [.d (BL (AH g))]))]
def fw10 (g : List Gau) : Shape := { α := One, dflt := default, T := λ _ => ⟨[(1, .bptr 1000 0), (2, .bptr 1016 0), (6, .bptr 5000 0)], [(1000, .live (bxG g)), (1016, zRtg), (5000, .live (.box [.own 201 1 0 (WB g.length).length])), (201, .live (rowI (WB g.length)))]⟩, inv := λ _ => AT g = 0, meas := λ _ => 0 }
def fw11 (g : List Gau) : Shape := { α := One, dflt := default, T := λ _ => ⟨[(1, .bptr 1000 0), (2, .bptr 1016 0), (6, .bptr 5000 0)], fwB g⟩, inv := λ _ => AT g = 0, meas := λ _ => 0, ffz := [201] }
def fwS (s : FS) (kv : AVal) : List (Nat × AVal) := [(1, .bptr 1000 0), (2, .bptr 1016 0), (6, .bptr 5000 0), (8, .bptr 12000 0), (9, kv), (10, .bptr 14032 0), (11, .int s.fr), (12, .int s.to)]
def fwSA (s : FS) : List (Nat × AVal) := fwS s (.d PD)
def fwSB (s : FS) : List (Nat × AVal) := fwS s (.own 303 1 0 s.k.length)
def fwHA (g : List Gau) (s : FS) : List (Nat × HCell) := fwB g ++ [(12000, zRtg), (14032, lnBx s.ln)]
def fwHB (g : List Gau) (s : FS) : List (Nat × HCell) := fwB g ++ [(12000, .live (.box [.own 301 1 0 s.b.length, .own 302 4 0 s.l.length])), (14032, lnBx s.ln), (301, .live (rowI s.b)), (302, .live (rowL s.l)), (303, .live (CPW s.k))]
def fwA (g : List Gau) : Shape := { α := FS, dflt := default, T := λ s => ⟨fwSA s, fwHA g s⟩, inv := λ s => invF g s /\ s.b = [] /\ s.l = [] /\ s.k = [], meas := λ s => VZ (AH g) s, tag := [0] }
def fwBb (g : List Gau) : Shape := { α := FS, dflt := default, T := λ s => ⟨fwSB s, fwHB g s⟩, inv := λ s => invF g s, meas := λ s => VZ (AH g) s, tag := [1] }
structure FSK where
 s : FS
 n : Nat
 deriving Inhabited
def BRA (g : List Gau) (m : Nat) (x : FSK) : Prop := invF g x.s /\ VZ (AH g) x.s = m /\ x.s.to < g.length /\ x.s.to <= x.n /\ x.n <= g.length /\ QK g (AH g) x.s.to = nxK g (AH g) x.s.to (g.length - x.n) x.n
def CNW (g : List Gau) (m : Nat) : Shape := { α := FSK, dflt := default, T := λ x => ⟨fwSA x.s ++ [(13, .int x.n)], fwHA g x.s⟩, inv := λ x => BRA g m x /\ x.s.b = [] /\ x.s.l = [] /\ x.s.k = [], meas := λ x => g.length - x.n }
def CQF (g : List Gau) (m : Nat) : Shape := { α := FSK, dflt := default, T := λ x => ⟨fwSB x.s ++ [(13, .int x.n)], fwHB g x.s⟩, inv := λ x => BRA g m x, meas := λ x => g.length - x.n }
def fw27 (g : List Gau) (m : Nat) : Shape := { α := FS, dflt := default, T := λ s => ⟨[(1, .bptr 1000 0), (2, .bptr 1016 0), (6, .bptr 5000 0), (8, .bptr 12000 0), (9, .own 303 1 0 s.k.length), (10, .bptr 14032 0), (12, .int s.to)], fwHB g s⟩, inv := λ s => invF g s /\ s.fr = s.to /\ VZ (AH g) s < m, meas := λ _ => 0, first := [(301, 26176), (302, 26256), (303, 27128)] }
def C_few : Ctr := { α := List Gau, xs := λ g => [.d (BO g)], L := λ _ => [], val := λ g => .tup [.d (eRtg (AU g).r), .d (eLL (AU g).k), .int (AU g).e], keep := λ _ => [], pre := λ g => [g.length < 20 /\ True] }
def CIK (g : List Gau) : Ann := { ann 123 [(tW, C_Check.spec UV), (BWE, C_ss.spec dGLt), (Fp, Sy), (W6, C_pk.spec dGPk), (Hv, C_isKnot.spec dGsK), (AIR, C_line.spec dGsK), (J8, C_kd.spec dGK)] with mt := λ id => id == 8 || id == 25 || id == 26 || id == 28, loops := λ id => if id = 6 then some [fw6n g, fw6o g] else if id = 15 then some [fwA g, fwBb g] else none, inner := λ gs id => if id = 17 then (if gs.getD 1 0 = 0 then some [CNW g (gs.getD 0 0)] else some [CQF g (gs.getD 0 0)]) else none, cut := λ id => if id = 10 then some [fw10 g] else if id = 11 then some [fw11 g] else none, cutIn := λ gs id => if id = 27 then some [fw27 g (gs.getD 0 0)] else none }
def CJW (g : List Gau) : Prop := AY Try.prog (CIK g) AIN (AF AIN) (C_few.xs g) (AC []) (C_few.val g) [] [] [301, 303, 29064]
abbrev QF (g : List Gau) : List Gau := AD g.length λ (i : Nat) => gD g i
abbrev VD (g : List Gau) : Nat := (QF g).length
abbrev Bv (g : List Gau) : Prop := VD g = g.length
abbrev AHU (g : List Gau) (i : Nat) : Gau := gD (QF g) i
abbrev BDU (g : List Gau) (i : Nat) : Int := (AHU g i).st
abbrev BJF (g : List Gau) (i : Nat) : Int := (AHU g i).lo
abbrev BGZ (g : List Gau) (i : Nat) : Int := (AHU g i).hi
abbrev Fx (g : List Gau) : Prop := ∀ (i : Nat), i < VD g -> BDU g i = (gD g i).st /\ BJF g i = (gD g i).lo /\ BGZ g i = (gD g i).hi
abbrev BEB (g : List Gau) : Int := AT (QF g)
abbrev Ce (g : List Gau) : Prop := (AU g).r.b.length = (0 : Nat)
abbrev Kv (g : List Gau) : Prop := (AU g).r.l.length = (0 : Nat)
abbrev TR (g : List Gau) : Prop := (AU g).k.length = (0 : Nat)
abbrev vQ (g : List Gau) : Prop := (↑g.length : Int) = (↑g.length : Int)
abbrev EN (g : List Gau) : Prop := ∀ (i : Nat), i < g.length -> (gD g i).st = (gD g i).st /\ (gD g i).lo = (gD g i).lo /\ (gD g i).hi = (gD g i).hi
abbrev AI : Prop := (0 : Nat) = (0 : Nat)
abbrev AO : Prop := ∀ (i : Nat), i < (0 : Nat) -> false = false
abbrev AUQ : Prop := (0 : Nat) < (0 : Nat)
abbrev AZA : Prop := True /\ (AUQ -> (0 : Nat) = (1 : Nat))
abbrev oV : Prop := (1 : Nat) <= (1 : Nat)
abbrev Ks : Prop := (0 : Nat) < (1 : Nat)
abbrev Ja : Prop := (1 : Nat) = (1 : Nat)
abbrev XR : Prop := oV /\ (Ks -> Ja)
abbrev uX : Prop := true = true -> Ks
abbrev rW : Prop := (1 : Nat) <= (9223372036854775807 : Nat)
abbrev BAI : Prop := AZA /\ XR /\ uX /\ rW /\ (8 : Nat) <= (140737488355328 : Nat)
abbrev vA (g : List Gau) (a : Nat) : Prop := AT g = (0 : Int) /\ (1 : Nat) <= a /\ a <= g.length
abbrev qB (g : List Gau) (a : Nat) : Nat := g.length - a
abbrev ZE : Prop := false = true -> Ks
abbrev tN (a : Nat) : Nat := a + (1 : Nat)
abbrev ASU (a : Nat) (a1 : Nat) : Prop := a = tN a1
abbrev xD (g : List Gau) : List Int := AD (WB g.length).length λ (i : Nat) => gD (WB g.length) i
abbrev ZK (g : List Gau) : Nat := (xD g).length
abbrev ARM (g : List Gau) : Prop := ZK g = (WB g.length).length
abbrev AUT (i : Nat) (g : List Gau) : Prop := i < ZK g
abbrev tR (g : List Gau) (i : Nat) : Int := gD (xD g) i
abbrev sK (g : List Gau) : Prop := g.length = VD g
abbrev sZ (g : List Gau) : Prop := ∀ (i : Nat), i < g.length -> (gD g i).st = BDU g i /\ (gD g i).lo = BJF g i /\ (gD g i).hi = BGZ g i
abbrev YS (j : Nat) : Nat := (0 : Nat) + j
abbrev HO (g : List Gau) : Prop := (AH g).length = (AH g).length
abbrev HK (g : List Gau) : Prop := ∀ (i : Nat), i < (AH g).length -> gD (AH g) i = gD (AH g) i
abbrev z_few_40 : Ln := AL (Pt.mk (0 : Int) (0 : Int))
abbrev Jg (g : List Gau) (a : FS) : Prop := AT g = (0 : Int) /\ a.fr <= a.to /\ a.to <= g.length /\ a.b.length <= a.fr /\ a.l.length = a.b.length /\ a.k.length = a.b.length /\ ∀ (m : Nat), VZ (AH g) a + (1 : Nat) <= m
 -> AU g = SH g (AH g) m a
abbrev uQ (g : List Gau) (a : FS) : Prop := Jg g a /\ a.b = [] /\ a.l = [] /\ a.k = []
abbrev AJW (a : FS) (g : List Gau) : Bool := decide ((↑a.to : Int) < (↑(AH g).length : Int))
abbrev AWY (a : FSK) (a1 : FS) : Prop := (↑a.s.fr : Int) = (↑a1.fr : Int)
abbrev AZC (a : FSK) (a1 : FS) : Prop := (↑a.s.to : Int) = (↑a1.to : Int)
abbrev AUE (a : FSK) (a1 : FS) : Prop := (↑a.n : Int) = (↑a1.to : Int)
abbrev tD (g : List Gau) (a : FSK) : Nat := g.length - a.n
abbrev Kh (g : List Gau) (a : FSK) (a1 : FS) : Prop := (AT g = (0 : Int) /\ a.s.fr <= a.s.to /\ a.s.to <= g.length /\ a.s.b.length <= a.s.fr /\ a.s.l.length = a.s.b.length /\ a.s.k.length = a.s.b.length /\ ∀ (m : Nat),
 VZ (AH g) a.s + (1 : Nat) <= m -> AU g = SH g (AH g) m a.s) /\ VZ (AH g) a.s = VZ (AH g) a1 /\ a.s.to < g.length /\ a.s.to <= a.n /\ a.n <= g.length /\ QK g (AH g) a.s.to = nxK g (AH g) a.s.to (tD g a)
 a.n
abbrev rJ (g : List Gau) (a : FSK) (a1 : FS) : Prop := Kh g a a1 /\ a.s.b = [] /\ a.s.l = [] /\ a.s.k = []
abbrev APX (a : FSK) (g : List Gau) : Prop := (↑a.n : Int) < (↑(AH g).length : Int)
abbrev ALH (a : FSK) (g : List Gau) : Bool := decide (APX a g)
abbrev Oc (a : FSK) (g : List Gau) : Prop := ALH a g = true
abbrev AIW (a : FSK) : Prop := (0 : Int) <= (↑a.s.to : Int)
abbrev pC (a : FSK) (g : List Gau) : Prop := AIW a /\ (↑a.s.to : Int) < (↑(AH g).length : Int)
abbrev qN (g : List Gau) (a : FSK) : Prop := (0 : Int) <= gD (AH g) a.s.to /\ gD (AH g) a.s.to < (↑g.length : Int)
abbrev ALI (a : FSK) (g : List Gau) : Prop := (Oc a g -> (0 : Int) <= (↑a.n : Int) /\ APX a g) /\ (Oc a g -> (0 : Int) <= gD (AH g) a.n /\ gD (AH g) a.n < (↑g.length : Int)) /\ (Oc a g -> pC
 a g) /\ (Oc a g -> qN g a)
abbrev vL (g : List Gau) (a : FSK) : Int := (gD g (gD (AH g) a.s.to).toNat).st
abbrev AUC (a : FSK) (g : List Gau) : Bool := bif ALH a g then (gD g (gD (AH g) a.n).toNat).st == vL g a else false
abbrev ALV (a : FSK) (a1 : FSK) : Prop := (↑a.s.fr : Int) = (↑a1.s.fr : Int)
abbrev AJO (a : FSK) (a1 : FSK) : Prop := (↑a.s.to : Int) = (↑a1.s.to : Int)
abbrev AKI (a : FSK) (a1 : FSK) : Prop := (↑a.n : Int) = IntKind.i64.wrap ((↑a1.n : Int) + (1 : Int))
abbrev AUN (a : FSK) (a1 : FSK) : Prop := a.s.ln.a0 = a1.s.ln.a0
abbrev AVJ (a : FSK) (a1 : FSK) : Prop := a.s.ln.a1 = a1.s.ln.a1
abbrev AVS (a : FSK) (a1 : FSK) : Prop := a.s.ln.b0 = a1.s.ln.b0
abbrev AWF (a : FSK) (a1 : FSK) : Prop := a.s.ln.b1 = a1.s.ln.b1
abbrev AVA (g : List Gau) (a : FSK) (a1 : FSK) : Prop := tD g a < tD g a1
abbrev AVW (a : FSK) : Prop := (↑a.n : Int) = (↑a.n : Int)
abbrev Ak (g : List Gau) : List Int := AD (AH g).length λ (i : Nat) => gD (AH g) i
abbrev WR (g : List Gau) : Nat := (Ak g).length
abbrev AXP (g : List Gau) : Prop := WR g = (AH g).length
abbrev AQL (g : List Gau) (i : Nat) : Int := gD (Ak g) i
abbrev AJA (g : List Gau) : Prop := ∀ (i : Nat), i < WR g -> AQL g i = gD (AH g) i
abbrev ATA (g : List Gau) : Prop := (AH g).length = WR g
abbrev ATQ (g : List Gau) : Prop := ∀ (i : Nat), i < (AH g).length -> gD (AH g) i = AQL g i
abbrev AMO (a : FSK) (g : List Gau) : Prop := (↑a.n : Int) <= (↑(WR g) : Int) /\ WR g < (1073741824 : Nat)
abbrev APL (g : List Gau) : Prop := ∀ (x : Int), List.Mem x (Ak g) -> (0 : Int) <= x /\ x < (↑(VD g) : Int)
abbrev ATZ (g : List Gau) (a : FSK) : List Gau := pkM (GPk.mk (QF g) (Ak g) (↑a.s.to : Int) (↑a.n : Int))
abbrev ANH (g : List Gau) (a : FSK) : Nat := (ATZ g a).length
abbrev Lt (g : List Gau) (a : FSK) (i : Nat) : Gau := gD (ATZ g a) i
abbrev Nd (g : List Gau) (a : FSK) : List Gau := AD (ANH g a) λ (i : Nat) => Lt g a i
abbrev uS (g : List Gau) (a : FSK) : Nat := (Nd g a).length
abbrev oM (g : List Gau) (a : FSK) (i : Nat) : Gau := gD (Nd g a) i
abbrev yC (g : Gau) : Prop := (0 : Int) <= g.st /\ g.st <= (2000 : Int) /\ (0 : Int) <= g.lo /\ g.lo <= g.hi /\ g.hi <= (200000 : Int)
abbrev AVL (a : FSK) (g : List Gau) : Prop := (↑a.s.to : Int) = (↑a.s.to : Int) /\ AVW a /\ AXP g /\ AJA g /\ Bv g /\ Fx g /\ ATA g /\ ATQ g /\ sK g /\ sZ g /\ ((AIW a /\
 (↑a.s.to : Int) <= (↑a.n : Int) /\ AMO a g) /\ APL g) /\ uS g a = ANH g a /\ (∀ (i : Nat), i < uS g a -> (oM g a i).st = (Lt g a i).st /\ (oM g a i).lo = (Lt g a i).lo /\
 (oM g a i).hi = (Lt g a i).hi) /\ uS g a < (1073741824 : Nat) /\ ∀ (g_1 : Gau), List.Mem g_1 (Nd g a) -> yC g_1
abbrev ATC (g : List Gau) (a : FSK) : Bool := !(BH (Nd g a)).snd
abbrev AXK (g : List Gau) : Prop := Ce g /\ Ce g /\ Kv g /\ Kv g /\ TR g /\ TR g /\ (AU g).e = (6 : Int)
abbrev AWS (a : FSK) : Prop := (0 : Int) <= (↑a.s.fr : Int)
abbrev AWE (a : FSK) : Prop := (↑a.s.fr : Int) <= (↑a.n : Int)
abbrev BAG (g : List Gau) (a : FSK) : List Gau := pkM (GPk.mk (QF g) (Ak g) (↑a.s.fr : Int) (↑a.n : Int))
abbrev AJQ (g : List Gau) (a : FSK) : Nat := (BAG g a).length
abbrev Mx (g : List Gau) (a : FSK) (i : Nat) : Gau := gD (BAG g a) i
abbrev Ly (g : List Gau) (a : FSK) : List Gau := AD (AJQ g a) λ (i : Nat) => Mx g a i
abbrev sW (g : List Gau) (a : FSK) : Nat := (Ly g a).length
abbrev oO (g : List Gau) (a : FSK) (i : Nat) : Gau := gD (Ly g a) i
abbrev ANU (a : FSK) (g : List Gau) : Prop := (↑a.s.fr : Int) = (↑a.s.fr : Int) /\ AVW a /\ AXP g /\ AJA g /\ Bv g /\ Fx g /\ ATA g /\ ATQ g /\ sK g /\ sZ g /\ ((AWS a /\
 AWE a /\ AMO a g) /\ APL g) /\ sW g a = AJQ g a /\ (∀ (i : Nat), i < sW g a -> (oO g a i).st = (Mx g a i).st /\ (oO g a i).lo = (Mx g a i).lo /\ (oO g a i).hi =
 (Mx g a i).hi) /\ sW g a < (1073741824 : Nat) /\ ∀ (g_1 : Gau), List.Mem g_1 (Ly g a) -> yC g_1
abbrev AON (g : List Gau) (a : FSK) : Ln × Bool := BH (Ly g a)
abbrev AJB (g : List Gau) (a : FSK) : Bool := (AON g a).snd
abbrev AVU (a : FS) (a1 : FSK) : Prop := (↑a.fr : Int) = (↑a1.s.fr : Int)
abbrev ALT (a : FS) (a1 : FSK) : Prop := (↑a.to : Int) = (↑a1.n : Int)
abbrev XP (g : List Gau) (a : FSK) : Ln := (AON g a).fst
abbrev ADP (a : FS) (g : List Gau) (a1 : FSK) : Prop := a.ln.a0 = (XP g a1).a0
abbrev I1 (a : FS) (g : List Gau) (a1 : FSK) : Prop := a.ln.a1 = (XP g a1).a1
abbrev O3 (a : FS) (g : List Gau) (a1 : FSK) : Prop := a.ln.b0 = (XP g a1).b0
abbrev zX (a : FS) (g : List Gau) (a1 : FSK) : Prop := a.ln.b1 = (XP g a1).b1
abbrev Tg (g : List Gau) (a : FS) (a1 : FS) : Prop := VZ (AH g) a < VZ (AH g) a1
abbrev Su : Prop := (4 : Nat) = (4 : Nat)
abbrev Rz : Prop := oV /\ (Ks -> Su)
abbrev yV : Prop := (True /\ (AUQ -> (0 : Nat) = (4 : Nat))) /\ Rz /\ uX /\ rW /\ (32 : Nat) <= (140737488355328 : Nat)
abbrev AAR (a : FSK) (g : List Gau) : Prop := AWS a /\ AWE a /\ (↑a.n : Int) <= (↑(AH g).length : Int)
abbrev R1 (a : FSK) : Nat := a.n - a.s.fr
abbrev zK (g : List Gau) (a : FSK) (i : Nat) : Int := gD (AH g) (a.s.fr + i)
abbrev Pe (a : FSK) (g : List Gau) : List Int := AD (R1 a) λ (i : Nat) => zK g a i
abbrev Ow (a : FSK) (g : List Gau) : Nat := (Pe a g).length
abbrev S1 (a : FSK) (g : List Gau) : Prop := Ow a g = R1 a
abbrev M5 (a : FSK) (g : List Gau) : Prop := ∀ (i : Nat), i < Ow a g -> gD (Pe a g) i = zK g a i
abbrev AAX (g : List Gau) (a : FSK) : Prop := (VD g < (1073741824 : Nat) /\ Ow a g < (1073741824 : Nat)) /\ ∀ (g_1 : Gau), List.Mem g_1 (QF g) -> yC g_1
abbrev AAB (a : FS) : Prop := a.k.length = (1 : Nat)
abbrev Z6 (a : FS) (a1 : FSK) : Prop := (↑a.to : Int) = (↑a1.s.to : Int)
abbrev L0 (a : FS) : Prop := a.b.length = (1 : Nat)
abbrev yS (a : FS) : Prop := a.l.length = (1 : Nat)
abbrev KA (a : FS) (i : Nat) : Nat := (gD a.k i).length
abbrev G0 (g : List Gau) (a : FSK) : List Int := VV (GK.mk (QF g) (Pe a g))
abbrev AAD (g : List Gau) (a : FSK) : Nat := (G0 g a).length
abbrev XT (i : Nat) (a : FS) (i1 : Nat) : Prop := i < KA a i1
abbrev MJ (a : FS) (i : Nat) (i1 : Nat) : Int := gD (gD a.k i) i1
abbrev ADY (g : List Gau) (a : FSK) (i : Nat) : Int := gD (G0 g a) i
abbrev Ti (g : List Gau) (a : FS) (a1 : FS) : Prop := Jg g a /\ a.fr = a.to /\ Tg g a a1
abbrev ACK (a : FS) (a1 : FS) : Prop := a.k.length = a1.k.length
abbrev B8 (a : FS) (a1 : FS) : Prop := a.b.length = a1.b.length
abbrev AAN (a : FS) (a1 : FS) : Prop := a.l.length = a1.l.length
abbrev O0 (g : List Gau) (a : FS) (a1 : FS) : Prop := Jg g a /\ Tg g a a1
abbrev ADG (g : List Gau) (a : FS) : Prop := ∀ (a_1 : FS), Ti g a_1 a -> ∃ (a_3 : FS), (AI /\ ACK a_3 a_1 /\ (↑a_3.fr : Int) = (↑a_1.to : Int) /\ (↑a_3.to : Int) = (↑a_1.to : Int) /\ g.length =
 g.length /\ EN g /\ AI /\ AO /\ AI /\ AO /\ HO g /\ HK g /\ AI /\ B8 a_3 a_1 /\ AI /\ AAN a_3 a_1 /\ a_3.ln.a0 = a_1.ln.a0 /\ a_3.ln.a1 = a_1.ln.a1 /\ a_3.ln.b0 =
 a_1.ln.b0 /\ a_3.ln.b1 = a_1.ln.b1 /\ B8 a_3 a_1 /\ (∀ (i : Nat), i < a_3.b.length -> gD a_3.b i = gD a_1.b i) /\ AAN a_3 a_1 /\ (∀ (i : Nat), i < a_3.l.length -> (gD a_3.l i).a0 = (gD a_1.l i).a0 /\ (gD a_3.l i).a1
 = (gD a_1.l i).a1 /\ (gD a_3.l i).b0 = (gD a_1.l i).b0 /\ (gD a_3.l i).b1 = (gD a_1.l i).b1) /\ ACK a_3 a_1 /\ ∀ (i : Nat), i < a_3.k.length -> KA a_3 i = KA a_1 i /\ ∀ (i_1 : Nat), XT i_1 a_3 i ->
 MJ a_3 i i_1 = MJ a_1 i i_1) /\ O0 g a_3 a
abbrev ADV (j : Nat) (g : List Gau) : Prop := j < (AU g).r.l.length
abbrev W3 (g : List Gau) : Prop := (AU g).e = (0 : Int)
abbrev zQ (a : FSK) (a1 : FS) : Prop := a.s.k.length = a1.k.length
abbrev F7 (a : FSK) (a1 : FS) : Prop := a.s.b.length = a1.b.length
abbrev D8 (a : FSK) (a1 : FS) : Prop := a.s.l.length = a1.l.length
abbrev Qy (i : Nat) (a : FSK) : Prop := i < a.s.k.length
abbrev MO (a : FSK) (i : Nat) : Nat := (gD a.s.k i).length
abbrev S4 (i : Nat) (a : FSK) (i1 : Nat) : Prop := i < MO a i1
abbrev QV (a : FSK) (i : Nat) (i1 : Nat) : Int := gD (gD a.s.k i) i1
abbrev J2 (a : FSK) (a1 : FSK) : Prop := a.s.k.length = a1.s.k.length
abbrev U6 (a : FSK) (a1 : FSK) : Prop := a.s.b.length = a1.s.b.length
abbrev H5 (a : FSK) (a1 : FSK) : Prop := a.s.l.length = a1.s.l.length
abbrev R2 (a : FS) (a1 : FSK) : Prop := a.k.length = a1.s.k.length
abbrev ADW (a : FS) (a1 : FSK) : Prop := a.b.length = a1.s.b.length
abbrev ABV (a : FS) (a1 : FSK) : Prop := a.l.length = a1.s.l.length
abbrev Pm (a : FSK) : Nat := a.s.b.length + (1 : Nat)
abbrev Se (a : FSK) : Nat := a.s.l.length + (1 : Nat)
abbrev Rk (a : FSK) : Nat := a.s.k.length + (1 : Nat)
abbrev ADF (a : FS) (a1 : FSK) : Prop := a.k.length = Rk a1
abbrev R8 (a : FS) (a1 : FSK) : Prop := a.b.length = Pm a1
abbrev G4 (a : FS) (a1 : FSK) : Prop := a.l.length = Se a1
abbrev XL (i : Nat) (a : FSK) : Bool := decide (i < a.s.l.length)
abbrev V9 (i : Nat) (a : FSK) : Bool := decide (Qy i a)
abbrev QT (a : FS) : Nat := a.l.length + (1 : Nat)
abbrev YZ (j : Nat) (a : FS) : Bool := decide (YS j < a.l.length)
abbrev WF (a : FS) (j : Nat) : Ln := gD a.l (YS j)
abbrev ABU (g : List Gau) (j : Nat) : Nat := (gD (AU g).k j).length
abbrev zJ (a : FS) (j : Nat) : List Int := gD a.k (YS j)
theorem CKT (g : List Gau) : (CJW g) = ((Bv g /\ Fx g /\ VD g < (4611686018427387904 : Nat) /\ True) /\ bif BEB g != (0 : Int) then Ce g /\ Ce g /\ Kv g /\ Kv g /\ TR g /\
 TR g /\ (AU g).e = BEB g else ((∃ (a : One), (vQ g /\ Int.ofNat (0 : Nat) = Int.ofNat (0 : Nat) /\ g.length = g.length /\ EN g /\ AI /\ AO /\ AI /\ AO /\ AI /\ AO) /\
 AT g = (0 : Int)) /\ (∀ (a : One), AT g = (0 : Int) -> bif decide ((↑(0 : Nat) : Int) < (↑g.length : Int)) then BAI /\ ∃ (a : Nat), (vQ g /\ (↑a : Int) = IntKind.i64.wrap ((↑(0 : Nat) : Int) + (1 : Int)) /\
 g.length = g.length /\ EN g /\ AI /\ AO /\ AI /\ AO /\ AI /\ a = (1 : Nat) /\ a = (1 : Nat) /\ ∀ (i : Nat), i < a -> (↑i : Int) = (↑(0 : Nat) : Int)) /\ vA g a /\ qB g a < g.length +
 (1 : Nat) else False) /\ ∀ (a : Nat), vA g a -> bif decide ((↑a : Int) < (↑g.length : Int)) then ((a = a /\ ((0 : Nat) < a -> Ja)) /\ XR /\ ZE /\ tN a <= (9223372036854775807 : Nat) /\ tN a *
 (8 : Nat) <= (140737488355328 : Nat)) /\ ∃ (a_2 : Nat), (vQ g /\ (↑a_2 : Int) = IntKind.i64.wrap ((↑a : Int) + (1 : Int)) /\ g.length = g.length /\ EN g /\ AI /\ AO /\ AI /\ AO /\ AI /\
 ASU a_2 a /\ ASU a_2 a /\ ∀ (i : Nat), i < a_2 -> (↑i : Int) = bif decide (i < a) then (↑i : Int) else (↑a : Int)) /\ vA g a_2 /\ qB g a_2 < qB g a else ∃ (a_2 : One), (g.length = g.length /\
 EN g /\ AI /\ AO /\ AI /\ AO /\ AI /\ (WB g.length).length = a /\ (WB g.length).length = a /\ ∀ (i : Nat), i < (WB g.length).length -> gD (WB g.length) i = (↑i : Int)) /\ AT g = (0 :
 Int)) /\ ∀ (a : One), AT g = (0 : Int) -> ((AI /\ ARM g /\ ARM g /\ (∀ (i : Nat), AUT i g -> tR g i = gD (WB g.length) i) /\ Bv g /\ Fx g /\ sK g /\ sZ g /\ ZK g < (20 :
 Nat) /\ ZK g < (1073741824 : Nat) /\ ∀ (i : Nat), AUT i g -> (0 : Int) <= tR g i /\ tR g i < (↑(VD g) : Int)) /\ ∃ (a : One), (g.length = g.length /\ EN g /\ AI /\ AO /\ AI /\
 AO /\ (AH g).length = (WB g.length).length /\ (0 : Nat) + (WB g.length).length <= ZK g /\ ∀ (j : Nat), j < (AH g).length -> gD (AH g) j = gD (stM (CR (QF g)) (xD g)) (YS j)) /\ AT g
 = (0 : Int)) /\ ∀ (a : One), AT g = (0 : Int) -> ((0 : Int) <= (0 : Int) /\ (0 : Int) <= (2000 : Int)) /\ (∃ (a : FS), (AI /\ AO /\ (↑a.fr : Int) = (0 : Int) /\ (↑a.to : Int) = (0 : Int) /\ g.length = g.length /\
 EN g /\ AI /\ AO /\ AI /\ AO /\ HO g /\ HK g /\ AI /\ AO /\ AI /\ AO /\ a.ln.a0 = z_few_40.a0 /\ a.ln.a1 = z_few_40.a1 /\ a.ln.b0 = z_few_40.b0 /\ a.ln.b1 =
 z_few_40.b1) /\ uQ g a) /\ (∀ (a : FS), uQ g a -> bif AJW a g then (∃ (a_2 : FSK), (AI /\ AO /\ AWY a_2 a /\ AZC a_2 a /\ AUE a_2 a /\ g.length = g.length /\ EN g /\ AI /\
 AO /\ AI /\ AO /\ HO g /\ HK g /\ AI /\ AO /\ AI /\ AO /\ a_2.s.ln.a0 = a.ln.a0 /\ a_2.s.ln.a1 = a.ln.a1 /\ a_2.s.ln.b0 = a.ln.b0 /\ a_2.s.ln.b1 = a.ln.b1) /\ rJ g a_2 a) /\
 ∀ (a_2 : FSK), rJ g a_2 a -> ALI a_2 g /\ bif AUC a_2 g then ∃ (a_4 : FSK), (AI /\ AO /\ ALV a_4 a_2 /\ AJO a_4 a_2 /\ AKI a_4 a_2 /\ g.length = g.length /\ EN g /\ AI /\
 AO /\ AI /\ AO /\ HO g /\ HK g /\ AI /\ AO /\ AI /\ AO /\ AUN a_4 a_2 /\ AVJ a_4 a_2 /\ AVS a_4 a_2 /\ AWF a_4 a_2) /\ rJ g a_4 a /\ AVA g a_4 a_2
 else AVL a_2 g /\ bif ATC g a_2 then AXK g else ANU a_2 g /\ bif AJB g a_2 then ∃ (a_4 : FS), (AI /\ AO /\ AVU a_4 a_2 /\ ALT a_4 a_2 /\ g.length = g.length /\ EN g /\
 AI /\ AO /\ AI /\ AO /\ HO g /\ HK g /\ AI /\ AO /\ AI /\ AO /\ ADP a_4 g a_2 /\ I1 a_4 g a_2 /\ O3 a_4 g a_2 /\ zX a_4 g a_2) /\ uQ g a_4 /\
 Tg g a_4 a else (pC a_2 g /\ qN g a_2 /\ BAI /\ yV) /\ ((AAR a_2 g /\ Bv g /\ Fx g /\ S1 a_2 g /\ M5 a_2 g /\ AAX g a_2 /\ AZA /\ XR /\ uX /\
 rW /\ (24 : Nat) <= (140737488355328 : Nat)) /\ ∃ (a_4 : FS), (AI /\ AAB a_4 /\ Z6 a_4 a_2 /\ g.length = g.length /\ EN g /\ AI /\ AO /\ AI /\ AO /\ HO g /\ HK g /\
 AI /\ L0 a_4 /\ AI /\ yS a_4 /\ a_4.ln.a0 = a_2.s.ln.a0 /\ a_4.ln.a1 = a_2.s.ln.a1 /\ a_4.ln.b0 = a_2.s.ln.b0 /\ a_4.ln.b1 = a_2.s.ln.b1 /\ L0 a_4 /\ (∀ (i : Nat), i < a_4.b.length -> gD a_4.b i =
 vL g a_2) /\ yS a_4 /\ (∀ (i : Nat), i < a_4.l.length -> (gD a_4.l i).a0 = a_2.s.ln.a0 /\ (gD a_4.l i).a1 = a_2.s.ln.a1 /\ (gD a_4.l i).b0 = a_2.s.ln.b0 /\ (gD a_4.l i).b1 = a_2.s.ln.b1) /\ AAB a_4 /\ ∀ (i :
 Nat), i < a_4.k.length -> KA a_4 i = AAD g a_2 /\ ∀ (i_1 : Nat), XT i_1 a_4 i -> MJ a_4 i i_1 = ADY g a_2 i_1) /\ Ti g a_4 a) /\ ADG g a else yV /\ Ce g /\ Ce g /\
 (AU g).r.l.length = (1 : Nat) /\ oV /\ (∀ (j : Nat), ADV j g -> (gD (AU g).r.l j).a0 = a.ln.a0 /\ (gD (AU g).r.l j).a1 = a.ln.a1 /\ (gD (AU g).r.l j).b0 = a.ln.b0 /\ (gD (AU g).r.l j).b1 = a.ln.b1) /\
 TR g /\ TR g /\ W3 g) /\ ∀ (a : FS), Jg g a -> bif AJW a g then (∃ (a_2 : FSK), (AI /\ zQ a_2 a /\ AWY a_2 a /\ AZC a_2 a /\ AUE a_2 a /\ g.length = g.length /\ EN g
 /\ AI /\ AO /\ AI /\ AO /\ HO g /\ HK g /\ AI /\ F7 a_2 a /\ AI /\ D8 a_2 a /\ a_2.s.ln.a0 = a.ln.a0 /\ a_2.s.ln.a1 = a.ln.a1 /\ a_2.s.ln.b0 = a.ln.b0 /\ a_2.s.ln.b1 =
 a.ln.b1 /\ F7 a_2 a /\ (∀ (i : Nat), i < a_2.s.b.length -> gD a_2.s.b i = gD a.b i) /\ D8 a_2 a /\ (∀ (i : Nat), i < a_2.s.l.length -> (gD a_2.s.l i).a0 = (gD a.l i).a0 /\ (gD a_2.s.l i).a1 = (gD a.l i).a1 /\ (gD
 a_2.s.l i).b0 = (gD a.l i).b0 /\ (gD a_2.s.l i).b1 = (gD a.l i).b1) /\ zQ a_2 a /\ ∀ (i : Nat), Qy i a_2 -> MO a_2 i = KA a i /\ ∀ (i_1 : Nat), S4 i_1 a_2 i -> QV a_2 i i_1 = MJ
 a i i_1) /\ Kh g a_2 a) /\ ∀ (a_2 : FSK), Kh g a_2 a -> ALI a_2 g /\ bif AUC a_2 g then ∃ (a_4 : FSK), (AI /\ J2 a_4 a_2 /\ ALV a_4 a_2 /\ AJO a_4 a_2 /\ AKI a_4 a_2 /\ g.length =
 g.length /\ EN g /\ AI /\ AO /\ AI /\ AO /\ HO g /\ HK g /\ AI /\ U6 a_4 a_2 /\ AI /\ H5 a_4 a_2 /\ AUN a_4 a_2 /\ AVJ a_4 a_2 /\ AVS a_4 a_2 /\
 AWF a_4 a_2 /\ U6 a_4 a_2 /\ (∀ (i : Nat), i < a_4.s.b.length -> gD a_4.s.b i = gD a_2.s.b i) /\ H5 a_4 a_2 /\ (∀ (i : Nat), i < a_4.s.l.length -> (gD a_4.s.l i).a0 = (gD a_2.s.l i).a0 /\ (gD a_4.s.l i).a1 =
 (gD a_2.s.l i).a1 /\ (gD a_4.s.l i).b0 = (gD a_2.s.l i).b0 /\ (gD a_4.s.l i).b1 = (gD a_2.s.l i).b1) /\ J2 a_4 a_2 /\ ∀ (i : Nat), Qy i a_4 -> MO a_4 i = MO a_2 i /\ ∀ (i_1 : Nat), S4 i_1 a_4
 i -> QV a_4 i i_1 = QV a_2 i i_1) /\ Kh g a_4 a /\ AVA g a_4 a_2 else AVL a_2 g /\ bif ATC g a_2 then AXK g else ANU a_2 g /\ bif AJB g a_2 then ∃ (a_4 : FS), (AI /\
 R2 a_4 a_2 /\ AVU a_4 a_2 /\ ALT a_4 a_2 /\ g.length = g.length /\ EN g /\ AI /\ AO /\ AI /\ AO /\ HO g /\ HK g /\ AI /\ ADW a_4 a_2 /\ AI /\ ABV a_4
 a_2 /\ ADP a_4 g a_2 /\ I1 a_4 g a_2 /\ O3 a_4 g a_2 /\ zX a_4 g a_2 /\ ADW a_4 a_2 /\ (∀ (i : Nat), i < a_4.b.length -> gD a_4.b i = gD a_2.s.b i) /\ ABV a_4 a_2 /\ (∀ (i : Nat), i <
 a_4.l.length -> (gD a_4.l i).a0 = (gD a_2.s.l i).a0 /\ (gD a_4.l i).a1 = (gD a_2.s.l i).a1 /\ (gD a_4.l i).b0 = (gD a_2.s.l i).b0 /\ (gD a_4.l i).b1 = (gD a_2.s.l i).b1) /\ R2 a_4 a_2 /\ ∀ (i : Nat), i < a_4.k.length ->
 KA a_4 i = MO a_2 i /\ ∀ (i_1 : Nat), XT i_1 a_4 i -> MJ a_4 i i_1 = QV a_2 i i_1) /\ O0 g a_4 a else (pC a_2 g /\ qN g a_2 /\ ((a_2.s.b.length = a_2.s.b.length /\ ((0 :
 Nat) < a_2.s.b.length -> Ja)) /\ XR /\ ZE /\ Pm a_2 <= (9223372036854775807 : Nat) /\ Pm a_2 * (8 : Nat) <= (140737488355328 : Nat)) /\ (a_2.s.l.length = a_2.s.l.length /\ ((0 : Nat) <
 a_2.s.l.length -> Su)) /\ Rz /\ ZE /\ Se a_2 <= (9223372036854775807 : Nat) /\ Se a_2 * (32 : Nat) <= (140737488355328 : Nat)) /\ ((AAR a_2 g /\ Bv g /\ Fx g /\ S1 a_2 g /\
 M5 a_2 g /\ AAX g a_2 /\ (a_2.s.k.length = a_2.s.k.length /\ ((0 : Nat) < a_2.s.k.length -> Ja)) /\ XR /\ ZE /\ Rk a_2 <= (9223372036854775807 : Nat) /\ Rk a_2 * (24 : Nat) <=
 (140737488355328 : Nat)) /\ ∃ (a_4 : FS), (AI /\ ADF a_4 a_2 /\ Z6 a_4 a_2 /\ g.length = g.length /\ EN g /\ AI /\ AO /\ AI /\ AO /\ HO g /\ HK g /\ AI /\ R8
 a_4 a_2 /\ AI /\ G4 a_4 a_2 /\ a_4.ln.a0 = a_2.s.ln.a0 /\ a_4.ln.a1 = a_2.s.ln.a1 /\ a_4.ln.b0 = a_2.s.ln.b0 /\ a_4.ln.b1 = a_2.s.ln.b1 /\ R8 a_4 a_2 /\ (∀ (i : Nat), i < a_4.b.length -> gD a_4.b i = bif
 decide (i < a_2.s.b.length) then gD a_2.s.b i else vL g a_2) /\ G4 a_4 a_2 /\ (∀ (i : Nat), i < a_4.l.length -> ((gD a_4.l i).a0 = bif XL i a_2 then (gD a_2.s.l i).a0 else a_2.s.ln.a0) /\ ((gD a_4.l i).a1
 = bif XL i a_2 then (gD a_2.s.l i).a1 else a_2.s.ln.a1) /\ ((gD a_4.l i).b0 = bif XL i a_2 then (gD a_2.s.l i).b0 else a_2.s.ln.b0) /\ (gD a_4.l i).b1 = bif XL i a_2 then (gD a_2.s.l i).b1 else
 a_2.s.ln.b1) /\ ADF a_4 a_2 /\ ∀ (i : Nat), i < a_4.k.length -> (KA a_4 i = bif V9 i a_2 then MO a_2 i else AAD g a_2) /\ ∀ (i_1 : Nat), XT i_1 a_4 i -> MJ a_4 i i_1 = bif
 V9 i a_2 then QV a_2 i i_1 else ADY g a_2 i_1) /\ Ti g a_4 a) /\ ADG g a else ((a.l.length = a.l.length /\ ((0 : Nat) < a.l.length -> Su)) /\ Rz /\ ZE /\ QT a <=
 (9223372036854775807 : Nat) /\ QT a * (32 : Nat) <= (140737488355328 : Nat)) /\ (AU g).r.b.length = a.b.length /\ (0 : Nat) + a.b.length <= a.b.length /\ (∀ (j : Nat), j < (AU g).r.b.length -> gD (AU g).r.b j = gD
 a.b (YS j)) /\ (AU g).r.l.length = QT a /\ (0 : Nat) + QT a <= QT a /\ (∀ (j : Nat), ADV j g -> ((gD (AU g).r.l j).a0 = bif YZ j a then (WF a j).a0 else a.ln.a0) /\ ((gD (AU
 g).r.l j).a1 = bif YZ j a then (WF a j).a1 else a.ln.a1) /\ ((gD (AU g).r.l j).b0 = bif YZ j a then (WF a j).b0 else a.ln.b0) /\ (gD (AU g).r.l j).b1 = bif YZ j a then (WF a
 j).b1 else a.ln.b1) /\ (AU g).k.length = a.k.length /\ (0 : Nat) + a.k.length <= a.k.length /\ (∀ (j : Nat), j < (AU g).k.length -> ABU g j = (zJ a j).length /\ ∀ (i : Nat), i < ABU g j -> gD (gD (AU
 g).k j) i = gD (zJ a j) i) /\ W3 g) := by kernel_rfl
theorem QI (n : Nat) : (WB n).length = n := by simp [WB]
theorem BXQ {n i : Nat} (h : i < n) : gD (WB n) i = i := by simp [WB, gD, List.getD_eq_getElem?_getD, h]
theorem ARL (g : List Gau) : (AH g).Perm (WB g.length) := BWY _ _
theorem AQ (g : List Gau) : (AH g).length = g.length := by rw [(ARL g).length_eq, QI]
theorem Rj {g : List Gau} {x : Int} (h : x ∈ AH g) : 0 <= x /\ x < g.length := by
 have := (ARL g).mem_iff.1 h
 unfold WB at this
 obtain ⟨i, hi, rfl⟩ := List.mem_map.1 this
 have := List.mem_range.1 hi
 exact ⟨Int.natCast_nonneg _, Int.ofNat_lt.2 this⟩
theorem kA {g : List Gau} {i : Nat} (h : i < g.length) : 0 <= gD (AH g) i /\ gD (AH g) i < g.length := Rj (BZ (by rw [AQ]; exact h))
theorem BRF {l : List Int} {a b : Nat} (h : b <= l.length) : (AD (b - a) λ i => gD l (a + i)) = (l.take b).drop a := by
 apply I4
 ·rw [rng_length, List.length_drop, List.length_take]; omega
 ·intro i hi
  rw [rng_length] at hi
  rw [BSU _ _ _ hi, QB]
  simp [gD, List.getD_eq_getElem?_getD, List.getElem?_take, show a + i < b by omega]
theorem BRB {g : List Gau} (hc : AT g = 0) (a b : Int) : (pkM ⟨g, AH g, a, b⟩).length < 1073741824 /\ ∀ x ∈ pkM ⟨g, AH g, a, b⟩, GY x := by
 obtain ⟨⟨h1, h2⟩, h3⟩ := PS hc
 refine ⟨?_, λ x hx => ?_⟩
 ·unfold pkM PU; rw [List.length_map, List.length_drop, List.length_take, AQ]; omega
 ·unfold pkM at hx
  obtain ⟨i, hi, rfl⟩ := List.mem_map.1 hx
  have := Rj (BQS hi)
  exact h3 _ (BZ (by omega))
theorem CCW {g : List Gau} {o : List Int} {t : Nat} : ∀ (n k : Nat), k <= nxK g o t n k /\ nxK g o t n k <= k + n
 | 0, k => ⟨Nat.le_refl _, Nat.le_refl _⟩
 | n + 1, k => by
  unfold nxK
  cases CR g (gD o k) == CR g (gD o t)
  ·exact ⟨Nat.le_refl _, by show k <= _; omega⟩
  ·have := CCW (g := g) (o := o) (t := t) n (k + 1); show k <= nxK g o t n (k + 1) /\ nxK g o t n (k + 1) <= _; omega
theorem AFB {g : List Gau} {t : Nat} (h : t < g.length) : t < QK g (AH g) t /\ QK g (AH g) t <= g.length := by
 unfold QK
 rw [AQ]
 obtain ⟨n, hn⟩ : ∃ n, g.length - t = n + 1 := ⟨g.length - t - 1, by omega⟩
 rw [hn]; unfold nxK
 rw [show (CR g (gD (AH g) t) == CR g (gD (AH g) t)) = true by simp]
 have := CCW (g := g) (o := AH g) (t := t) n (t + 1)
 show t < nxK g (AH g) t n (t + 1) /\ nxK g (AH g) t n (t + 1) <= _
 omega
theorem Ll {g : List Gau} : ∀ (m n : Nat) (s : FS), s.fr <= s.to -> s.to <= g.length -> VZ (AH g) s + 1 <= m -> VZ (AH g) s + 1 <= n -> SH g (AH g) m s = SH g (AH g) n s
 | 0, _, _, _, _, h, _ => by omega
 | m + 1, 0, _, _, _, _, h => by omega
 | m + 1, n + 1, s, h0, h1, h2, h3 => by
  unfold SH
  by_cases hl : s.to < (AH g).length
  ·rw [decide_eq_true hl]
   rw [AQ] at hl
   have hx := AFB hl
   unfold VZ at h2 h3
   rw [AQ] at h2 h3
   cases hq : (BH (yK g (AH g) s.to (QK g (AH g) s.to))).2
   ·rfl
   ·cases hr : (BH (yK g (AH g) s.fr (QK g (AH g) s.to))).2
    ·have hne : s.fr ≠ s.to := λ he => by rw [he, hq] at hr; cases hr
     rw [if_pos (by omega)] at h2 h3
     refine Ll m n (Jj g (AH g) s) (Nat.le_refl _) h1 ?_ ?_ <;> (unfold VZ Jj; rw [AQ]; simp only [Nat.lt_irrefl, if_false]; omega)
    ·refine Ll m n (goF g (AH g) s) (by show s.fr <= QK _ _ _; omega) hx.2 ?_ ?_ <;> (unfold VZ goF; rw [AQ]; simp only []; split at h2 <;> split <;> omega)
  ·rw [decide_eq_false hl]; rfl
theorem BPA (g : List Gau) (o : List Int) (n : Nat) (s : FS) : SH g o (n + 1) s = bif decide (s.to < o.length) then (bif (BH (yK g o s.to (QK g o s.to))).2 then (bif (BH (yK g o s.fr (QK g o s.to))).2 then SH g o n (goF g o s) else SH g o n (Jj g o s)) else ⟨⟨[], []⟩, [], 6⟩) else ⟨⟨s.b, s.l ++ [s.ln]⟩, s.k, 0⟩ := rfl
theorem CIN {g : List Gau} {s : FS} (h : invF g s) (ht : ¬s.to < g.length) : AU g = ⟨⟨s.b, s.l ++ [s.ln]⟩, s.k, 0⟩ := by
 rw [h.2.2.2.2.2.2 _ (Nat.le_refl _)]; unfold SH; rw [decide_eq_false (by rw [AQ]; exact ht)]; rfl
theorem CHT {g : List Gau} {s : FS} (h : invF g s) (ht : s.to < g.length) (hq : (BH (yK g (AH g) s.to (QK g (AH g) s.to))).2 = false) : AU g = ⟨⟨[], []⟩, [], 6⟩ := by
 rw [h.2.2.2.2.2.2 _ (Nat.le_refl _)]; unfold SH; rw [decide_eq_true (by rw [AQ]; exact ht), hq]; rfl
theorem F_go {g : List Gau} {s : FS} (h : invF g s) (ht : s.to < g.length) (hq : (BH (yK g (AH g) s.to (QK g (AH g) s.to))).2 = true) (hr : (BH (yK g (AH g) s.fr (QK g (AH g) s.to))).2 = true) : invF g (goF g (AH g) s) /\ VZ (AH g) (goF g (AH g) s) < VZ (AH g) s := by
 obtain ⟨h1, h2, h3, h4, h5, h6, h7⟩ := h
 have hx := AFB ht
 have hm : VZ (AH g) (goF g (AH g) s) < VZ (AH g) s := by unfold VZ goF; rw [AQ]; simp only []; split <;> split <;> omega
 refine ⟨⟨h1, by show s.fr <= QK _ _ _; omega, hx.2, h4, h5, h6, λ m hm2 => ?_⟩, hm⟩
 rw [h7 (VZ (AH g) s + 1) (Nat.le_refl _), BPA, decide_eq_true (by rw [AQ]; exact ht), hq, hr]
 exact Ll (VZ (AH g) s) m (goF g (AH g) s) (by show s.fr <= QK _ _ _; omega) hx.2 hm hm2
theorem CIS {g : List Gau} {s : FS} (h : invF g s) (ht : s.to < g.length) (hq : (BH (yK g (AH g) s.to (QK g (AH g) s.to))).2 = true) (hr : (BH (yK g (AH g) s.fr (QK g (AH g) s.to))).2 = false) : invF g (Jj g (AH g) s) /\ VZ (AH g) (Jj g (AH g) s) < VZ (AH g) s := by
 obtain ⟨h1, h2, h3, h4, h5, h6, h7⟩ := h
 have hx := AFB ht
 have hne : s.fr ≠ s.to := λ he => by rw [he, hq] at hr; cases hr
 have hm : VZ (AH g) (Jj g (AH g) s) < VZ (AH g) s := by unfold VZ Jj; rw [AQ]; simp only [Nat.lt_irrefl, if_false]; rw [if_pos (by omega)]; omega
 refine ⟨⟨h1, Nat.le_refl _, h3, by show (s.b ++ [_]).length <= s.to; simp; omega, by show (s.l ++ [_]).length = (s.b ++ [_]).length; simp; omega, by show (s.k ++ [_]).length = (s.b ++ [_]).length; simp; omega, λ m hm2 => ?_⟩, hm⟩
 rw [h7 (VZ (AH g) s + 1) (Nat.le_refl _), BPA, decide_eq_true (by rw [AQ]; exact ht), hq, hr]
 exact Ll (VZ (AH g) s) m (Jj g (AH g) s) (Nat.le_refl _) h3 hm hm2
theorem BTH {g : List Gau} {t n : Nat} (hn : n < g.length) (h : CR g (gD (AH g) n) = CR g (gD (AH g) t)) : nxK g (AH g) t (g.length - n) n = nxK g (AH g) t (g.length - (n + 1)) (n + 1) := by
 obtain ⟨m, hm⟩ : ∃ m, g.length - n = m + 1 := ⟨g.length - n - 1, by omega⟩
 rw [hm, show g.length - (n + 1) = m by omega]
 conv => lhs; unfold nxK
 rw [show (CR g (gD (AH g) n) == CR g (gD (AH g) t)) = true by rw [h]; simp]; rfl
theorem BSN {g : List Gau} {t n : Nat} (hn : n <= g.length) (h : (bif decide (n < g.length) then CR g (gD (AH g) n) == CR g (gD (AH g) t) else false) = false) : nxK g (AH g) t (g.length - n) n = n := by
 by_cases hl : n < g.length
 ·rw [decide_eq_true hl] at h
  have h : (CR g (gD (AH g) n) == CR g (gD (AH g) t)) = false := h
  obtain ⟨m, hm⟩ : ∃ m, g.length - n = m + 1 := ⟨g.length - n - 1, by omega⟩
  rw [hm]; unfold nxK; rw [h]; rfl
 ·rw [show g.length - n = 0 by omega]; rfl
theorem CID {g : List Gau} {t n : Nat} (h : (bif decide (n < g.length) then CR g (gD (AH g) n) == CR g (gD (AH g) t) else false) = true) : n < g.length /\ CR g (gD (AH g) n) = CR g (gD (AH g) t) := by
 cases hd : decide (n < g.length) with
 | false => rw [hd] at h; cases h
 | true => rw [hd] at h; exact ⟨of_decide_eq_true hd, by simpa using h⟩
theorem CHY (l : List Int) (p : Int) (i : Nat) (hi : i < (l ++ [p]).length) : gD (l ++ [p]) i = bif decide (i < l.length) then gD l i else p := wM _ _ (by simpa using hi)
theorem CPK (g : List Gau) (hg : g.length < 20) : CJW g := by
 rw [CKT]; delta QF VD Bv AHU BDU BJF BGZ Fx BEB Ce Kv TR vQ EN AI AO AUQ AZA oV Ks Ja XR uX rW BAI vA qB ZE tN ASU xD ZK ARM AUT tR sK sZ YS HO HK z_few_40 Jg uQ AJW AWY AZC AUE tD Kh rJ APX ALH Oc AIW pC qN ALI vL AUC ALV AJO AKI AUN AVJ AVS AWF AVA AVW Ak WR AXP AQL AJA ATA ATQ AMO APL ATZ ANH Lt Nd uS oM yC AVL ATC AXK AWS AWE BAG AJQ Mx Ly sW oO ANU AON AJB AVU ALT XP ADP I1 O3 zX Tg Su Rz yV AAR R1 zK Pe Ow S1 M5 AAX AAB Z6 L0 yS KA G0 AAD XT MJ ADY Ti ACK B8 AAN O0 ADG ADV W3 zQ F7 D8 Qy MO S4 QV J2 U6 H5 R2 ADW ABV Pm Se Rk ADF R8 G4 XL V9 QT YZ WF ABU zJ; simp only [CC, eq_self, implies_true, forall_const, Int.ofNat_lt]
 have zz : ∀ n, AU g = ⟨⟨[], []⟩, [], n⟩ -> (AU g).r.b.length = 0 /\ (AU g).r.b.length = 0 /\ (AU g).r.l.length = 0 /\ (AU g).r.l.length = 0 /\ (AU g).k.length = 0 /\ (AU g).k.length = 0 /\ (AU g).e = n := λ n h => by rw [h]; exact ⟨rfl, rfl, rfl, rfl, rfl, rfl, rfl⟩
 refine ⟨by omega, λ he => ?_, λ he => ?_⟩
 ·refine zz _ ?_
  unfold AU; rw [show (AT g == 0) = false by simpa using he]; rfl
 ·have hc : AT g = 0 := by simpa using he
  have hck := PS hc
  refine ⟨⟨⟨default, hc⟩, λ _ => ⟨λ h0 => ⟨⟨by omega, by omega, by omega, by omega, by omega⟩, 1, ⟨(CA (a := 0) (by omega)).symm, rfl, rfl, λ i hi => by rw [show i = 0 by omega]⟩, ⟨hc, by omega, by omega⟩, by omega⟩, λ h0 => by omega⟩, λ k ⟨_, k1, k2⟩ => ⟨λ hlt => ⟨⟨by omega, λ h => (by cases h), by omega, by omega⟩, k + 1, ⟨(CA (by omega)).symm, rfl, rfl, λ i hi => ?_⟩, ⟨hc, by omega, by omega⟩, by omega⟩, λ hge => ⟨default, ⟨?_, ?_, λ i hi => ?_⟩, hc⟩⟩⟩, λ _ => ⟨⟨⟨by rw [QI]; exact hg, by rw [QI]; omega, λ i hi => ?_⟩, default, ⟨?_, Nat.le_refl _, λ _ _ => rfl⟩, hc⟩, λ _ => ⟨⟨by omega, by omega⟩, ⟨ini0, ⟨rfl, rfl, rfl, rfl, rfl, rfl⟩, ⟨hc, Nat.le_refl _, Nat.zero_le _, Nat.le_refl _, rfl, rfl, λ m hm => ?_⟩, rfl, rfl, rfl⟩, λ s hs => ?_, λ s hs => ?_⟩⟩⟩
  ·by_cases h : i < k
   ·rw [decide_eq_true h]; rfl
   ·rw [decide_eq_false h, show i = k by omega]; rfl
  ·rw [QI]; omega
  ·rw [QI]; omega
  ·rw [QI] at hi; exact BXQ hi
  ·rw [QI] at hi; rw [BXQ hi]; omega
  ·rw [AQ, QI]
  ·unfold AU; rw [show (AT g == 0) = true by rw [hc]; rfl]
   exact Ll _ _ _ (Nat.le_refl _) (Nat.zero_le _) (by unfold VZ ini0; rw [AQ]; simp) hm
  ·obtain ⟨hI, hb, hl, hk⟩ : invF g s /\ s.b = [] /\ s.l = [] /\ s.k = [] := hs
   refine ⟨λ ht => ?_, λ ht => ?_⟩
   ·have ht : s.to < g.length := by rw [AQ] at ht; exact ht
    refine ⟨⟨⟨s, s.to⟩, ⟨rfl, rfl, rfl, rfl, rfl, rfl, rfl⟩, ⟨hI, rfl, ht, Nat.le_refl _, Nat.le_of_lt ht, ?_⟩, hb, hl, hk⟩, λ x hx => ?_⟩
    ·unfold QK; rw [AQ]
    ·obtain ⟨⟨xI, x1, x2, x3, x4, x5⟩, xb, xl, xk⟩ : BRA g (VZ (AH g) s) x /\ x.s.b = [] /\ x.s.l = [] /\ x.s.k = [] := hx
     refine ⟨⟨λ h => ⟨by omega, by omega⟩, λ h => kA (by rw [AQ] at h; exact h), λ h => ⟨by omega, by rw [AQ]; omega⟩, λ _ => kA x2⟩, λ hq => ?_, λ hq => ?_⟩
     ·rw [AQ] at hq
      obtain ⟨q1, q2⟩ := CID hq
      exact ⟨⟨x.s, x.n + 1⟩, ⟨rfl, rfl, (CA (by omega)).symm, rfl, rfl, rfl, rfl⟩, ⟨⟨xI, x1, x2, by show x.s.to <= x.n + 1; omega, q1, x5.trans (BTH q1 q2)⟩, xb, xl, xk⟩, by show g.length - (x.n + 1) < _; omega⟩
     ·rw [AQ] at hq
      have hn : QK g (AH g) x.s.to = x.n := x5.trans (BSN x4 hq)
      have e1 : pkM ⟨g, AH g, x.s.to, x.n⟩ = yK g (AH g) x.s.to (QK g (AH g) x.s.to) := by rw [hn]; rfl
      have e2 : pkM ⟨g, AH g, x.s.fr, x.n⟩ = yK g (AH g) x.s.fr (QK g (AH g) x.s.to) := by rw [hn]; rfl
      have hfr : x.s.fr <= x.s.to := xI.2.1
      have hbl : x.s.b.length <= x.s.fr := xI.2.2.2.1
      have hll : x.s.l.length = x.s.b.length := xI.2.2.2.2.1
      have hkl : x.s.k.length = x.s.b.length := xI.2.2.2.2.2.1
      refine ⟨⟨⟨⟨by omega, by omega, by rw [AQ]; omega, by rw [AQ]; omega⟩, λ _ h => Rj h⟩, BRB hc _ _⟩, λ hb1 => zz _ (CHT xI x2 (by rw [<- e1]; exact hb1)), λ hb1 => ⟨⟨⟨⟨by omega, by omega, by rw [AQ]; omega, by rw [AQ]; omega⟩, λ _ h => Rj h⟩, BRB hc _ _⟩, λ hb2 => ?_, λ hb2 => ?_⟩⟩
      ·obtain ⟨f1, f2⟩ := F_go xI x2 (by rw [<- e1]; exact hb1) (by rw [<- e2]; exact hb2)
       exact ⟨goF g (AH g) x.s, ⟨rfl, by show ((QK g (AH g) x.s.to : Nat) : Int) = x.n; rw [hn], by rw [e2]; rfl, by rw [e2]; rfl, by rw [e2]; rfl, by rw [e2]; rfl⟩, ⟨f1, xb, xl, xk⟩, by rw [<- x1]; exact f2⟩
      ·obtain ⟨f1, f2⟩ := CIS xI x2 (by rw [<- e1]; exact hb1) (by rw [<- e2]; exact hb2)
       have eB : Jj g (AH g) x.s = ⟨x.s.to, x.s.to, x.s.ln, [CR g (gD (AH g) x.s.to)], [x.s.ln], [VV ⟨g, ((AH g).take x.n).drop x.s.fr⟩]⟩ := by unfold Jj; rw [xb, xl, xk, hn]; rfl
       rw [eB] at f1 f2
       rw [BRF (by rw [AQ]; exact x4)]
       refine ⟨⟨⟨by omega, by rw [AQ]; omega⟩, kA x2, ⟨by omega, by omega, by omega, by omega, by omega⟩, by omega, by omega, by omega, by omega, by omega⟩, ⟨⟨⟨by omega, by omega, by rw [AQ]; omega⟩, λ i hi => ?_, ⟨⟨by omega, by omega⟩, hck.2⟩, by omega, by omega, by omega, by omega, by omega⟩, ⟨x.s.to, x.s.to, x.s.ln, [CR g (gD (AH g) x.s.to)], [x.s.ln], [VV ⟨g, ((AH g).take x.n).drop x.s.fr⟩]⟩, ⟨rfl, rfl, rfl, rfl, rfl, rfl, rfl, rfl, rfl, λ i hi => (by rw [show i = 0 by have h1 : i < 1 := hi; omega]; rfl), rfl, oneL _, rfl, λ i hi => (by rw [show i = 0 by have h1 : i < 1 := hi; omega]; exact ⟨rfl, λ _ _ => rfl⟩)⟩, f1, rfl, by rw [<- x1]; exact f2⟩, λ y ⟨y1, y2, y3⟩ => ⟨y, ⟨rfl, by rw [y2], rfl, rfl, rfl, rfl, rfl, rfl, rfl, rfl, λ _ _ => rfl, rfl, λ _ _ => ⟨rfl, rfl, rfl, rfl⟩, rfl, λ _ _ => ⟨rfl, λ _ _ => rfl⟩⟩, y1, y3⟩⟩
       rw [QB]; simp [gD, List.getD_eq_getElem?_getD, List.getElem?_take, show x.s.fr + i < x.n by omega]
   ·rw [AQ] at ht
    rw [CIN hI ht, hb, hl, hk]
    exact ⟨⟨by omega, by omega, by omega, by omega, by omega⟩, rfl, rfl, rfl, by omega, oneL _, rfl, rfl, rfl⟩
  ·have hI : invF g s := hs
   have hbl : s.b.length <= s.fr := hI.2.2.2.1
   have hll : s.l.length = s.b.length := hI.2.2.2.2.1
   have hkl : s.k.length = s.b.length := hI.2.2.2.2.2.1
   have hfr : s.fr <= s.to := hI.2.1
   have hto : s.to <= g.length := hI.2.2.1
   refine ⟨λ ht => ?_, λ ht => ?_⟩
   ·have ht : s.to < g.length := by rw [AQ] at ht; exact ht
    refine ⟨⟨⟨s, s.to⟩, ⟨rfl, rfl, rfl, rfl, rfl, rfl, rfl, rfl, rfl, rfl, rfl, λ _ _ => rfl, rfl, λ _ _ => ⟨rfl, rfl, rfl, rfl⟩, rfl, λ _ _ => ⟨rfl, λ _ _ => rfl⟩⟩, hI, rfl, ht, Nat.le_refl _, Nat.le_of_lt ht, ?_⟩, λ x hx => ?_⟩
    ·unfold QK; rw [AQ]
    ·obtain ⟨xI, x1, x2, x3, x4, x5⟩ : BRA g (VZ (AH g) s) x := hx
     refine ⟨⟨λ h => ⟨by omega, by omega⟩, λ h => kA (by rw [AQ] at h; exact h), λ h => ⟨by omega, by rw [AQ]; omega⟩, λ _ => kA x2⟩, λ hq => ?_, λ hq => ?_⟩
     ·rw [AQ] at hq
      obtain ⟨q1, q2⟩ := CID hq
      exact ⟨⟨x.s, x.n + 1⟩, ⟨rfl, rfl, rfl, (CA (by omega)).symm, rfl, rfl, rfl, rfl, rfl, rfl, rfl, λ _ _ => rfl, rfl, λ _ _ => ⟨rfl, rfl, rfl, rfl⟩, rfl, λ _ _ => ⟨rfl, λ _ _ => rfl⟩⟩, ⟨xI, x1, x2, by show x.s.to <= x.n + 1; omega, q1, x5.trans (BTH q1 q2)⟩, by show g.length - (x.n + 1) < _; omega⟩
     ·rw [AQ] at hq
      have hn : QK g (AH g) x.s.to = x.n := x5.trans (BSN x4 hq)
      have e1 : pkM ⟨g, AH g, x.s.to, x.n⟩ = yK g (AH g) x.s.to (QK g (AH g) x.s.to) := by rw [hn]; rfl
      have e2 : pkM ⟨g, AH g, x.s.fr, x.n⟩ = yK g (AH g) x.s.fr (QK g (AH g) x.s.to) := by rw [hn]; rfl
      have hfr : x.s.fr <= x.s.to := xI.2.1
      have hbl : x.s.b.length <= x.s.fr := xI.2.2.2.1
      have hll : x.s.l.length = x.s.b.length := xI.2.2.2.2.1
      have hkl : x.s.k.length = x.s.b.length := xI.2.2.2.2.2.1
      refine ⟨⟨⟨⟨by omega, by omega, by rw [AQ]; omega, by rw [AQ]; omega⟩, λ _ h => Rj h⟩, BRB hc _ _⟩, λ hb1 => zz _ (CHT xI x2 (by rw [<- e1]; exact hb1)), λ hb1 => ⟨⟨⟨⟨by omega, by omega, by rw [AQ]; omega, by rw [AQ]; omega⟩, λ _ h => Rj h⟩, BRB hc _ _⟩, λ hb2 => ?_, λ hb2 => ?_⟩⟩
      ·obtain ⟨f1, f2⟩ := F_go xI x2 (by rw [<- e1]; exact hb1) (by rw [<- e2]; exact hb2)
       exact ⟨goF g (AH g) x.s, ⟨rfl, rfl, by show ((QK g (AH g) x.s.to : Nat) : Int) = x.n; rw [hn], rfl, rfl, by rw [e2]; rfl, by rw [e2]; rfl, by rw [e2]; rfl, by rw [e2]; rfl, rfl, λ _ _ => rfl, rfl, λ _ _ => ⟨rfl, rfl, rfl, rfl⟩, rfl, λ _ _ => ⟨rfl, λ _ _ => rfl⟩⟩, f1, by rw [<- x1]; exact f2⟩
      ·obtain ⟨f1, f2⟩ := CIS xI x2 (by rw [<- e1]; exact hb1) (by rw [<- e2]; exact hb2)
       have eB : Jj g (AH g) x.s = ⟨x.s.to, x.s.to, x.s.ln, x.s.b ++ [CR g (gD (AH g) x.s.to)], x.s.l ++ [x.s.ln], x.s.k ++ [VV ⟨g, ((AH g).take x.n).drop x.s.fr⟩]⟩ := by unfold Jj; rw [hn]
       rw [eB] at f1 f2
       rw [BRF (by rw [AQ]; exact x4)]
       refine ⟨⟨⟨by omega, by rw [AQ]; omega⟩, kA x2, ⟨by omega, λ h => (by cases h), by omega⟩, by omega, λ h => (by cases h), by omega⟩, ⟨⟨⟨by omega, by omega, by rw [AQ]; omega⟩, λ i hi => ?_, ⟨⟨by omega, by omega⟩, hck.2⟩, by omega, λ h => (by cases h), by omega⟩, ⟨x.s.to, x.s.to, x.s.ln, x.s.b ++ [CR g (gD (AH g) x.s.to)], x.s.l ++ [x.s.ln], x.s.k ++ [VV ⟨g, ((AH g).take x.n).drop x.s.fr⟩]⟩, ⟨by simp, rfl, by simp, by simp, rfl, rfl, rfl, rfl, by simp, CHY _ _, by simp, BCD _ _, by simp, λ i hi => ?_⟩, f1, rfl, by rw [<- x1]; exact f2⟩, λ y ⟨y1, y2, y3⟩ => ⟨y, ⟨rfl, by rw [y2], rfl, rfl, rfl, rfl, rfl, rfl, rfl, rfl, λ _ _ => rfl, rfl, λ _ _ => ⟨rfl, rfl, rfl, rfl⟩, rfl, λ _ _ => ⟨rfl, λ _ _ => rfl⟩⟩, y1, y3⟩⟩
       rw [QB]; simp [gD, List.getD_eq_getElem?_getD, List.getElem?_take, show x.s.fr + i < x.n by omega]
       rw [wM _ _ (by simpa using hi)]
       cases decide (i < x.s.k.length) <;> exact ⟨rfl, λ _ _ => rfl⟩
   ·rw [AQ] at ht
    rw [CIN hI ht]
    exact ⟨⟨by omega, λ h => (by cases h), by omega, by omega⟩, rfl, Nat.le_refl _, λ _ _ => rfl, by simp, by omega, BCD _ _, rfl, Nat.le_refl _, λ _ _ => ⟨rfl, λ _ _ => rfl⟩, rfl⟩
theorem CAP : AG Try.prog ZH (C_few.spec UV) := JX C_few CIK [] [301, 303, 29064] BTX (λ _ => by kernel_rfl) (λ _ => AB pF (AB CQJ (AB RW (AB CPO (AB ACG (AB BPW (AB COJ AE))))))) (λ (g : List Gau) h => CPK g (show g.length < 20 /\ True from h).1) (λ _ => KJ rfl rfl) _
end Go.Bal
