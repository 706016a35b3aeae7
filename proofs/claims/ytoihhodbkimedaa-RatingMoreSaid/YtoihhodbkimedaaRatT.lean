/- Package rating: the fewest parts. -/
import Derived.Test.YtoihhodbkimedaaRatT0
set_option linter.unusedVariables false
set_option linter.unusedSimpArgs false
namespace Go.Bal
open Go Go.Sym Go.Proofs
def eLL (l : List (List Int)) : DVal := lst 1 l.length λ i => eIntsL (gD l i)
def rowLL (l : List (List Int)) : AObj := .row 1 l.length λ i => eIntsL (gD l i)
structure FS where
 fr : Nat
 to : Nat
 ln : Ln
 b : List Int
 l : List Ln
 k : List (List Int)
 deriving Inhabited
def iotI (n : Nat) : List Int := (List.range n).map Int.ofNat
def ordM (g : List Gau) : List Int := stM (keyG g) (iotI g.length)
def nxK (g : List Gau) (o : List Int) (t : Nat) : Nat -> Nat -> Nat
 | 0, k => k
 | n + 1, k => bif keyG g (gD o k) == keyG g (gD o t) then nxK g o t n (k + 1) else k
def nxM (g : List Gau) (o : List Int) (t : Nat) : Nat := nxK g o t (o.length - t) t
def pkR (g : List Gau) (o : List Int) (a b : Nat) : List Gau := pkM ⟨g, o, a, b⟩
def brkF (g : List Gau) (o : List Int) (s : FS) : FS := ⟨s.to, s.to, s.ln, s.b ++ [keyG g (gD o s.to)], s.l ++ [s.ln], s.k ++ [kntM ⟨g, (o.take (nxM g o s.to)).drop s.fr⟩]⟩
def goF (g : List Gau) (o : List Int) (s : FS) : FS := ⟨s.fr, nxM g o s.to, (lineM (pkR g o s.fr (nxM g o s.to))).1, s.b, s.l, s.k⟩
structure FR where
 r : Rtg
 k : List (List Int)
 e : Int
def fewR (g : List Gau) (o : List Int) : Nat -> FS -> FR
 | 0, s => ⟨⟨s.b, s.l ++ [s.ln]⟩, s.k, 0⟩
 | n + 1, s => bif decide (s.to < o.length) then (bif (lineM (pkR g o s.to (nxM g o s.to))).2 then (bif (lineM (pkR g o s.fr (nxM g o s.to))).2 then fewR g o n (goF g o s) else fewR g o n (brkF g o s)) else ⟨⟨[], []⟩, [], 6⟩) else ⟨⟨s.b, s.l ++ [s.ln]⟩, s.k, 0⟩
def ini0 : FS := ⟨0, 0, levM ⟨0, 0⟩, [], [], []⟩
def fewM (g : List Gau) : FR := bif checkG g == 0 then fewR g (ordM g) (2 * g.length + 2) ini0 else ⟨⟨[], []⟩, [], checkG g⟩
def msF (o : List Int) (s : FS) : Nat := 2 * (o.length - s.to) + (if s.fr < s.to then 1 else 0)
def invF (g : List Gau) (s : FS) : Prop := checkG g = 0 /\ s.fr <= s.to /\ s.to <= g.length /\ s.b.length <= s.fr /\ s.l.length = s.b.length /\ s.k.length = s.b.length /\ (∀ m, msF (ordM g) s + 1 <= m -> fewM g = fewR g (ordM g) m s)
def zRtg : HCell := .live (.box [.d nilL, .d nilL])
def lnBx (x : Ln) : HCell := .live (.box [.int x.a0, .int x.a1, .int x.b0, .int x.b1])
def fwN (g : List Gau) (k : Nat) : List (Nat × AVal) := [(1, .bptr 1000 0), (2, .bptr 1016 0), (6, .bptr 5000 0), (24, .int g.length), (25, .int k)]
def fw6n (g : List Gau) : Shape := { α := One, dflt := default, T := λ _ => ⟨fwN g 0, [(1000, .live (bxG g)), (1016, zRtg), (5000, .live (.box [.d nilL]))]⟩, inv := λ _ => checkG g = 0, meas := λ _ => g.length + 1 }
def fw6o (g : List Gau) : Shape := { α := Nat, dflt := 0, T := λ k => ⟨fwN g k, [(1000, .live (bxG g)), (1016, zRtg), (5000, .live (.box [.own 201 1 0 k])), (201, .live (.row 1 k λ i => eInt i))]⟩, inv := λ k => checkG g = 0 /\ 1 <= k /\ k <= g.length, meas := λ k => g.length - k, again := [(201, 9048)] }
def fwB (g : List Gau) : List (Nat × HCell) := [(1000, .live (bxG g)), (1016, zRtg), (5000, .live (.box [.d (eIntsL (ordM g))]))]
def fw10 (g : List Gau) : Shape := { α := One, dflt := default, T := λ _ => ⟨[(1, .bptr 1000 0), (2, .bptr 1016 0), (6, .bptr 5000 0)], [(1000, .live (bxG g)), (1016, zRtg), (5000, .live (.box [.own 201 1 0 (iotI g.length).length])), (201, .live (rowI (iotI g.length)))]⟩, inv := λ _ => checkG g = 0, meas := λ _ => 0 }
def fw11 (g : List Gau) : Shape := { α := One, dflt := default, T := λ _ => ⟨[(1, .bptr 1000 0), (2, .bptr 1016 0), (6, .bptr 5000 0)], fwB g⟩, inv := λ _ => checkG g = 0, meas := λ _ => 0, ffz := [201] }
def fwS (s : FS) (kv : AVal) : List (Nat × AVal) := [(1, .bptr 1000 0), (2, .bptr 1016 0), (6, .bptr 5000 0), (8, .bptr 12000 0), (9, kv), (10, .bptr 14032 0), (11, .int s.fr), (12, .int s.to)]
def fwSA (s : FS) : List (Nat × AVal) := fwS s (.d nilL)
def fwSB (s : FS) : List (Nat × AVal) := fwS s (.own 303 1 0 s.k.length)
def fwHA (g : List Gau) (s : FS) : List (Nat × HCell) := fwB g ++ [(12000, zRtg), (14032, lnBx s.ln)]
def fwHB (g : List Gau) (s : FS) : List (Nat × HCell) := fwB g ++ [(12000, .live (.box [.own 301 1 0 s.b.length, .own 302 4 0 s.l.length])), (14032, lnBx s.ln), (301, .live (rowI s.b)), (302, .live (rowL s.l)), (303, .live (rowLL s.k))]
def fwA (g : List Gau) : Shape := { α := FS, dflt := default, T := λ s => ⟨fwSA s, fwHA g s⟩, inv := λ s => invF g s /\ s.b = [] /\ s.l = [] /\ s.k = [], meas := λ s => msF (ordM g) s, tag := [0] }
def fwBb (g : List Gau) : Shape := { α := FS, dflt := default, T := λ s => ⟨fwSB s, fwHB g s⟩, inv := λ s => invF g s, meas := λ s => msF (ordM g) s, tag := [1] }
structure FSK where
 s : FS
 n : Nat
 deriving Inhabited
def inv17 (g : List Gau) (m : Nat) (x : FSK) : Prop := invF g x.s /\ msF (ordM g) x.s = m /\ x.s.to < g.length /\ x.s.to <= x.n /\ x.n <= g.length /\ nxM g (ordM g) x.s.to = nxK g (ordM g) x.s.to (g.length - x.n) x.n
def fwA17 (g : List Gau) (m : Nat) : Shape := { α := FSK, dflt := default, T := λ x => ⟨fwSA x.s ++ [(13, .int x.n)], fwHA g x.s⟩, inv := λ x => inv17 g m x /\ x.s.b = [] /\ x.s.l = [] /\ x.s.k = [], meas := λ x => g.length - x.n }
def fwB17 (g : List Gau) (m : Nat) : Shape := { α := FSK, dflt := default, T := λ x => ⟨fwSB x.s ++ [(13, .int x.n)], fwHB g x.s⟩, inv := λ x => inv17 g m x, meas := λ x => g.length - x.n }
def fw27 (g : List Gau) (m : Nat) : Shape := { α := FS, dflt := default, T := λ s => ⟨[(1, .bptr 1000 0), (2, .bptr 1016 0), (6, .bptr 5000 0), (8, .bptr 12000 0), (9, .own 303 1 0 s.k.length), (10, .bptr 14032 0), (12, .int s.to)], fwHB g s⟩, inv := λ s => invF g s /\ s.fr = s.to /\ msF (ordM g) s < m, meas := λ _ => 0, first := [(301, 26176), (302, 26256), (303, 27128)] }
def C_few : Ctr := { α := List Gau, xs := λ g => [.d (eGaus g)], L := λ _ => [], val := λ g => .tup [.d (eRtg (fewM g).r), .d (eLL (fewM g).k), .int (fewM g).e], keep := λ _ => [], pre := λ g => [g.length < 20 /\ True] }
def A_few (g : List Gau) : Ann := { ann 123 [(n_Check, C_Check.spec dGs1), (n_ssI, C_ss.spec dGLt), (n_level, s_level), (n_fewest2, C_pk.spec dGPk), (n_isKnot, C_isKnot.spec dGsK), (n_line, C_line.spec dGsK), (n_knotted, C_kd.spec dGK)] with mt := λ id => id == 8 || id == 25 || id == 26 || id == 28, loops := λ id => if id = 6 then some [fw6n g, fw6o g] else if id = 15 then some [fwA g, fwBb g] else none, inner := λ gs id => if id = 17 then (if gs.getD 1 0 = 0 then some [fwA17 g (gs.getD 0 0)] else some [fwB17 g (gs.getD 0 0)]) else none, cut := λ id => if id = 10 then some [fw10 g] else if id = 11 then some [fw11 g] else none, cutIn := λ gs id => if id = 27 then some [fw27 g (gs.getD 0 0)] else none }
def V_few (g : List Gau) : Prop := fnVC Try.prog (A_few g) F_fewest (bodyOf F_fewest) (C_few.xs g) (heapOf []) (C_few.val g) [] [] [301, 303, 29064]
abbrev z_few_0 (g : List Gau) : List Gau := rng g.length λ (i : Nat) => gD g i
abbrev z_few_1 (g : List Gau) : Nat := (z_few_0 g).length
abbrev z_few_2 (g : List Gau) : Prop := z_few_1 g = g.length
abbrev z_few_3 (g : List Gau) (i : Nat) : Gau := gD (z_few_0 g) i
abbrev z_few_4 (g : List Gau) (i : Nat) : Int := (z_few_3 g i).st
abbrev z_few_5 (g : List Gau) (i : Nat) : Int := (z_few_3 g i).lo
abbrev z_few_6 (g : List Gau) (i : Nat) : Int := (z_few_3 g i).hi
abbrev z_few_7 (g : List Gau) : Prop := ∀ (i : Nat), i < z_few_1 g -> z_few_4 g i = (gD g i).st /\ z_few_5 g i = (gD g i).lo /\ z_few_6 g i = (gD g i).hi
abbrev z_few_8 (g : List Gau) : Int := checkG (z_few_0 g)
abbrev z_few_9 (g : List Gau) : Prop := (fewM g).r.b.length = (0 : Nat)
abbrev z_few_10 (g : List Gau) : Prop := (fewM g).r.l.length = (0 : Nat)
abbrev z_few_11 (g : List Gau) : Prop := (fewM g).k.length = (0 : Nat)
abbrev z_few_12 (g : List Gau) : Prop := (↑g.length : Int) = (↑g.length : Int)
abbrev z_few_13 (g : List Gau) : Prop := ∀ (i : Nat), i < g.length -> (gD g i).st = (gD g i).st /\ (gD g i).lo = (gD g i).lo /\ (gD g i).hi = (gD g i).hi
abbrev z_few_14 : Prop := (0 : Nat) = (0 : Nat)
abbrev z_few_15 : Prop := ∀ (i : Nat), i < (0 : Nat) -> false = false
abbrev z_few_16 : Prop := (0 : Nat) < (0 : Nat)
abbrev z_few_17 : Prop := True /\ (z_few_16 -> (0 : Nat) = (1 : Nat))
abbrev z_few_18 : Prop := (1 : Nat) <= (1 : Nat)
abbrev z_few_19 : Prop := (0 : Nat) < (1 : Nat)
abbrev z_few_20 : Prop := (1 : Nat) = (1 : Nat)
abbrev z_few_21 : Prop := z_few_18 /\ (z_few_19 -> z_few_20)
abbrev z_few_22 : Prop := true = true -> z_few_19
abbrev z_few_23 : Prop := (1 : Nat) <= (9223372036854775807 : Nat)
abbrev z_few_24 : Prop := z_few_17 /\ z_few_21 /\ z_few_22 /\ z_few_23 /\ (8 : Nat) <= (140737488355328 : Nat)
abbrev z_few_25 (g : List Gau) (a : Nat) : Prop := checkG g = (0 : Int) /\ (1 : Nat) <= a /\ a <= g.length
abbrev z_few_26 (g : List Gau) (a : Nat) : Nat := g.length - a
abbrev z_few_27 : Prop := false = true -> z_few_19
abbrev z_few_28 (a : Nat) : Nat := a + (1 : Nat)
abbrev z_few_29 (a : Nat) (a1 : Nat) : Prop := a = z_few_28 a1
abbrev z_few_30 (g : List Gau) : List Int := rng (iotI g.length).length λ (i : Nat) => gD (iotI g.length) i
abbrev z_few_31 (g : List Gau) : Nat := (z_few_30 g).length
abbrev z_few_32 (g : List Gau) : Prop := z_few_31 g = (iotI g.length).length
abbrev z_few_33 (i : Nat) (g : List Gau) : Prop := i < z_few_31 g
abbrev z_few_34 (g : List Gau) (i : Nat) : Int := gD (z_few_30 g) i
abbrev z_few_35 (g : List Gau) : Prop := g.length = z_few_1 g
abbrev z_few_36 (g : List Gau) : Prop := ∀ (i : Nat), i < g.length -> (gD g i).st = z_few_4 g i /\ (gD g i).lo = z_few_5 g i /\ (gD g i).hi = z_few_6 g i
abbrev z_few_37 (j : Nat) : Nat := (0 : Nat) + j
abbrev z_few_38 (g : List Gau) : Prop := (ordM g).length = (ordM g).length
abbrev z_few_39 (g : List Gau) : Prop := ∀ (i : Nat), i < (ordM g).length -> gD (ordM g) i = gD (ordM g) i
abbrev z_few_40 : Ln := levM (Pt.mk (0 : Int) (0 : Int))
abbrev z_few_41 (g : List Gau) (a : FS) : Prop := checkG g = (0 : Int) /\ a.fr <= a.to /\ a.to <= g.length /\ a.b.length <= a.fr /\ a.l.length = a.b.length /\ a.k.length = a.b.length /\ ∀ (m : Nat), msF (ordM g) a + (1 : Nat) <= m
 -> fewM g = fewR g (ordM g) m a
abbrev z_few_42 (g : List Gau) (a : FS) : Prop := z_few_41 g a /\ a.b = [] /\ a.l = [] /\ a.k = []
abbrev z_few_43 (a : FS) (g : List Gau) : Bool := decide ((↑a.to : Int) < (↑(ordM g).length : Int))
abbrev z_few_44 (a : FSK) (a1 : FS) : Prop := (↑a.s.fr : Int) = (↑a1.fr : Int)
abbrev z_few_45 (a : FSK) (a1 : FS) : Prop := (↑a.s.to : Int) = (↑a1.to : Int)
abbrev z_few_46 (a : FSK) (a1 : FS) : Prop := (↑a.n : Int) = (↑a1.to : Int)
abbrev z_few_47 (g : List Gau) (a : FSK) : Nat := g.length - a.n
abbrev z_few_48 (g : List Gau) (a : FSK) (a1 : FS) : Prop := (checkG g = (0 : Int) /\ a.s.fr <= a.s.to /\ a.s.to <= g.length /\ a.s.b.length <= a.s.fr /\ a.s.l.length = a.s.b.length /\ a.s.k.length = a.s.b.length /\ ∀ (m : Nat),
 msF (ordM g) a.s + (1 : Nat) <= m -> fewM g = fewR g (ordM g) m a.s) /\ msF (ordM g) a.s = msF (ordM g) a1 /\ a.s.to < g.length /\ a.s.to <= a.n /\ a.n <= g.length /\ nxM g (ordM g) a.s.to = nxK g (ordM g) a.s.to (z_few_47 g a)
 a.n
abbrev z_few_49 (g : List Gau) (a : FSK) (a1 : FS) : Prop := z_few_48 g a a1 /\ a.s.b = [] /\ a.s.l = [] /\ a.s.k = []
abbrev z_few_50 (a : FSK) (g : List Gau) : Prop := (↑a.n : Int) < (↑(ordM g).length : Int)
abbrev z_few_51 (a : FSK) (g : List Gau) : Bool := decide (z_few_50 a g)
abbrev z_few_52 (a : FSK) (g : List Gau) : Prop := z_few_51 a g = true
abbrev z_few_53 (a : FSK) : Prop := (0 : Int) <= (↑a.s.to : Int)
abbrev z_few_54 (a : FSK) (g : List Gau) : Prop := z_few_53 a /\ (↑a.s.to : Int) < (↑(ordM g).length : Int)
abbrev z_few_55 (g : List Gau) (a : FSK) : Prop := (0 : Int) <= gD (ordM g) a.s.to /\ gD (ordM g) a.s.to < (↑g.length : Int)
abbrev z_few_56 (a : FSK) (g : List Gau) : Prop := (z_few_52 a g -> (0 : Int) <= (↑a.n : Int) /\ z_few_50 a g) /\ (z_few_52 a g -> (0 : Int) <= gD (ordM g) a.n /\ gD (ordM g) a.n < (↑g.length : Int)) /\ (z_few_52 a g -> z_few_54
 a g) /\ (z_few_52 a g -> z_few_55 g a)
abbrev z_few_57 (g : List Gau) (a : FSK) : Int := (gD g (gD (ordM g) a.s.to).toNat).st
abbrev z_few_58 (a : FSK) (g : List Gau) : Bool := bif z_few_51 a g then (gD g (gD (ordM g) a.n).toNat).st == z_few_57 g a else false
abbrev z_few_59 (a : FSK) (a1 : FSK) : Prop := (↑a.s.fr : Int) = (↑a1.s.fr : Int)
abbrev z_few_60 (a : FSK) (a1 : FSK) : Prop := (↑a.s.to : Int) = (↑a1.s.to : Int)
abbrev z_few_61 (a : FSK) (a1 : FSK) : Prop := (↑a.n : Int) = IntKind.i64.wrap ((↑a1.n : Int) + (1 : Int))
abbrev z_few_62 (a : FSK) (a1 : FSK) : Prop := a.s.ln.a0 = a1.s.ln.a0
abbrev z_few_63 (a : FSK) (a1 : FSK) : Prop := a.s.ln.a1 = a1.s.ln.a1
abbrev z_few_64 (a : FSK) (a1 : FSK) : Prop := a.s.ln.b0 = a1.s.ln.b0
abbrev z_few_65 (a : FSK) (a1 : FSK) : Prop := a.s.ln.b1 = a1.s.ln.b1
abbrev z_few_66 (g : List Gau) (a : FSK) (a1 : FSK) : Prop := z_few_47 g a < z_few_47 g a1
abbrev z_few_67 (a : FSK) : Prop := (↑a.n : Int) = (↑a.n : Int)
abbrev z_few_68 (g : List Gau) : List Int := rng (ordM g).length λ (i : Nat) => gD (ordM g) i
abbrev z_few_69 (g : List Gau) : Nat := (z_few_68 g).length
abbrev z_few_70 (g : List Gau) : Prop := z_few_69 g = (ordM g).length
abbrev z_few_71 (g : List Gau) (i : Nat) : Int := gD (z_few_68 g) i
abbrev z_few_72 (g : List Gau) : Prop := ∀ (i : Nat), i < z_few_69 g -> z_few_71 g i = gD (ordM g) i
abbrev z_few_73 (g : List Gau) : Prop := (ordM g).length = z_few_69 g
abbrev z_few_74 (g : List Gau) : Prop := ∀ (i : Nat), i < (ordM g).length -> gD (ordM g) i = z_few_71 g i
abbrev z_few_75 (a : FSK) (g : List Gau) : Prop := (↑a.n : Int) <= (↑(z_few_69 g) : Int) /\ z_few_69 g < (1073741824 : Nat)
abbrev z_few_76 (g : List Gau) : Prop := ∀ (x : Int), List.Mem x (z_few_68 g) -> (0 : Int) <= x /\ x < (↑(z_few_1 g) : Int)
abbrev z_few_77 (g : List Gau) (a : FSK) : List Gau := pkM (GPk.mk (z_few_0 g) (z_few_68 g) (↑a.s.to : Int) (↑a.n : Int))
abbrev z_few_78 (g : List Gau) (a : FSK) : Nat := (z_few_77 g a).length
abbrev z_few_79 (g : List Gau) (a : FSK) (i : Nat) : Gau := gD (z_few_77 g a) i
abbrev z_few_80 (g : List Gau) (a : FSK) : List Gau := rng (z_few_78 g a) λ (i : Nat) => z_few_79 g a i
abbrev z_few_81 (g : List Gau) (a : FSK) : Nat := (z_few_80 g a).length
abbrev z_few_82 (g : List Gau) (a : FSK) (i : Nat) : Gau := gD (z_few_80 g a) i
abbrev z_few_83 (g : Gau) : Prop := (0 : Int) <= g.st /\ g.st <= (2000 : Int) /\ (0 : Int) <= g.lo /\ g.lo <= g.hi /\ g.hi <= (200000 : Int)
abbrev z_few_84 (a : FSK) (g : List Gau) : Prop := (↑a.s.to : Int) = (↑a.s.to : Int) /\ z_few_67 a /\ z_few_70 g /\ z_few_72 g /\ z_few_2 g /\ z_few_7 g /\ z_few_73 g /\ z_few_74 g /\ z_few_35 g /\ z_few_36 g /\ ((z_few_53 a /\
 (↑a.s.to : Int) <= (↑a.n : Int) /\ z_few_75 a g) /\ z_few_76 g) /\ z_few_81 g a = z_few_78 g a /\ (∀ (i : Nat), i < z_few_81 g a -> (z_few_82 g a i).st = (z_few_79 g a i).st /\ (z_few_82 g a i).lo = (z_few_79 g a i).lo /\
 (z_few_82 g a i).hi = (z_few_79 g a i).hi) /\ z_few_81 g a < (1073741824 : Nat) /\ ∀ (g_1 : Gau), List.Mem g_1 (z_few_80 g a) -> z_few_83 g_1
abbrev z_few_85 (g : List Gau) (a : FSK) : Bool := !(lineM (z_few_80 g a)).snd
abbrev z_few_86 (g : List Gau) : Prop := z_few_9 g /\ z_few_9 g /\ z_few_10 g /\ z_few_10 g /\ z_few_11 g /\ z_few_11 g /\ (fewM g).e = (6 : Int)
abbrev z_few_87 (a : FSK) : Prop := (0 : Int) <= (↑a.s.fr : Int)
abbrev z_few_88 (a : FSK) : Prop := (↑a.s.fr : Int) <= (↑a.n : Int)
abbrev z_few_89 (g : List Gau) (a : FSK) : List Gau := pkM (GPk.mk (z_few_0 g) (z_few_68 g) (↑a.s.fr : Int) (↑a.n : Int))
abbrev z_few_90 (g : List Gau) (a : FSK) : Nat := (z_few_89 g a).length
abbrev z_few_91 (g : List Gau) (a : FSK) (i : Nat) : Gau := gD (z_few_89 g a) i
abbrev z_few_92 (g : List Gau) (a : FSK) : List Gau := rng (z_few_90 g a) λ (i : Nat) => z_few_91 g a i
abbrev z_few_93 (g : List Gau) (a : FSK) : Nat := (z_few_92 g a).length
abbrev z_few_94 (g : List Gau) (a : FSK) (i : Nat) : Gau := gD (z_few_92 g a) i
abbrev z_few_95 (a : FSK) (g : List Gau) : Prop := (↑a.s.fr : Int) = (↑a.s.fr : Int) /\ z_few_67 a /\ z_few_70 g /\ z_few_72 g /\ z_few_2 g /\ z_few_7 g /\ z_few_73 g /\ z_few_74 g /\ z_few_35 g /\ z_few_36 g /\ ((z_few_87 a /\
 z_few_88 a /\ z_few_75 a g) /\ z_few_76 g) /\ z_few_93 g a = z_few_90 g a /\ (∀ (i : Nat), i < z_few_93 g a -> (z_few_94 g a i).st = (z_few_91 g a i).st /\ (z_few_94 g a i).lo = (z_few_91 g a i).lo /\ (z_few_94 g a i).hi =
 (z_few_91 g a i).hi) /\ z_few_93 g a < (1073741824 : Nat) /\ ∀ (g_1 : Gau), List.Mem g_1 (z_few_92 g a) -> z_few_83 g_1
abbrev z_few_96 (g : List Gau) (a : FSK) : Ln × Bool := lineM (z_few_92 g a)
abbrev z_few_97 (g : List Gau) (a : FSK) : Bool := (z_few_96 g a).snd
abbrev z_few_98 (a : FS) (a1 : FSK) : Prop := (↑a.fr : Int) = (↑a1.s.fr : Int)
abbrev z_few_99 (a : FS) (a1 : FSK) : Prop := (↑a.to : Int) = (↑a1.n : Int)
abbrev z_few_100 (g : List Gau) (a : FSK) : Ln := (z_few_96 g a).fst
abbrev z_few_101 (a : FS) (g : List Gau) (a1 : FSK) : Prop := a.ln.a0 = (z_few_100 g a1).a0
abbrev z_few_102 (a : FS) (g : List Gau) (a1 : FSK) : Prop := a.ln.a1 = (z_few_100 g a1).a1
abbrev z_few_103 (a : FS) (g : List Gau) (a1 : FSK) : Prop := a.ln.b0 = (z_few_100 g a1).b0
abbrev z_few_104 (a : FS) (g : List Gau) (a1 : FSK) : Prop := a.ln.b1 = (z_few_100 g a1).b1
abbrev z_few_105 (g : List Gau) (a : FS) (a1 : FS) : Prop := msF (ordM g) a < msF (ordM g) a1
abbrev z_few_106 : Prop := (4 : Nat) = (4 : Nat)
abbrev z_few_107 : Prop := z_few_18 /\ (z_few_19 -> z_few_106)
abbrev z_few_108 : Prop := (True /\ (z_few_16 -> (0 : Nat) = (4 : Nat))) /\ z_few_107 /\ z_few_22 /\ z_few_23 /\ (32 : Nat) <= (140737488355328 : Nat)
abbrev z_few_109 (a : FSK) (g : List Gau) : Prop := z_few_87 a /\ z_few_88 a /\ (↑a.n : Int) <= (↑(ordM g).length : Int)
abbrev z_few_110 (a : FSK) : Nat := a.n - a.s.fr
abbrev z_few_111 (g : List Gau) (a : FSK) (i : Nat) : Int := gD (ordM g) (a.s.fr + i)
abbrev z_few_112 (a : FSK) (g : List Gau) : List Int := rng (z_few_110 a) λ (i : Nat) => z_few_111 g a i
abbrev z_few_113 (a : FSK) (g : List Gau) : Nat := (z_few_112 a g).length
abbrev z_few_114 (a : FSK) (g : List Gau) : Prop := z_few_113 a g = z_few_110 a
abbrev z_few_115 (a : FSK) (g : List Gau) : Prop := ∀ (i : Nat), i < z_few_113 a g -> gD (z_few_112 a g) i = z_few_111 g a i
abbrev z_few_116 (g : List Gau) (a : FSK) : Prop := (z_few_1 g < (1073741824 : Nat) /\ z_few_113 a g < (1073741824 : Nat)) /\ ∀ (g_1 : Gau), List.Mem g_1 (z_few_0 g) -> z_few_83 g_1
abbrev z_few_117 (a : FS) : Prop := a.k.length = (1 : Nat)
abbrev z_few_118 (a : FS) (a1 : FSK) : Prop := (↑a.to : Int) = (↑a1.s.to : Int)
abbrev z_few_119 (a : FS) : Prop := a.b.length = (1 : Nat)
abbrev z_few_120 (a : FS) : Prop := a.l.length = (1 : Nat)
abbrev z_few_121 (a : FS) (i : Nat) : Nat := (gD a.k i).length
abbrev z_few_122 (g : List Gau) (a : FSK) : List Int := kntM (GK.mk (z_few_0 g) (z_few_112 a g))
abbrev z_few_123 (g : List Gau) (a : FSK) : Nat := (z_few_122 g a).length
abbrev z_few_124 (i : Nat) (a : FS) (i1 : Nat) : Prop := i < z_few_121 a i1
abbrev z_few_125 (a : FS) (i : Nat) (i1 : Nat) : Int := gD (gD a.k i) i1
abbrev z_few_126 (g : List Gau) (a : FSK) (i : Nat) : Int := gD (z_few_122 g a) i
abbrev z_few_127 (g : List Gau) (a : FS) (a1 : FS) : Prop := z_few_41 g a /\ a.fr = a.to /\ z_few_105 g a a1
abbrev z_few_128 (a : FS) (a1 : FS) : Prop := a.k.length = a1.k.length
abbrev z_few_129 (a : FS) (a1 : FS) : Prop := a.b.length = a1.b.length
abbrev z_few_130 (a : FS) (a1 : FS) : Prop := a.l.length = a1.l.length
abbrev z_few_131 (g : List Gau) (a : FS) (a1 : FS) : Prop := z_few_41 g a /\ z_few_105 g a a1
abbrev z_few_132 (g : List Gau) (a : FS) : Prop := ∀ (a_1 : FS), z_few_127 g a_1 a -> ∃ (a_3 : FS), (z_few_14 /\ z_few_128 a_3 a_1 /\ (↑a_3.fr : Int) = (↑a_1.to : Int) /\ (↑a_3.to : Int) = (↑a_1.to : Int) /\ g.length =
 g.length /\ z_few_13 g /\ z_few_14 /\ z_few_15 /\ z_few_14 /\ z_few_15 /\ z_few_38 g /\ z_few_39 g /\ z_few_14 /\ z_few_129 a_3 a_1 /\ z_few_14 /\ z_few_130 a_3 a_1 /\ a_3.ln.a0 = a_1.ln.a0 /\ a_3.ln.a1 = a_1.ln.a1 /\ a_3.ln.b0 =
 a_1.ln.b0 /\ a_3.ln.b1 = a_1.ln.b1 /\ z_few_129 a_3 a_1 /\ (∀ (i : Nat), i < a_3.b.length -> gD a_3.b i = gD a_1.b i) /\ z_few_130 a_3 a_1 /\ (∀ (i : Nat), i < a_3.l.length -> (gD a_3.l i).a0 = (gD a_1.l i).a0 /\ (gD a_3.l i).a1
 = (gD a_1.l i).a1 /\ (gD a_3.l i).b0 = (gD a_1.l i).b0 /\ (gD a_3.l i).b1 = (gD a_1.l i).b1) /\ z_few_128 a_3 a_1 /\ ∀ (i : Nat), i < a_3.k.length -> z_few_121 a_3 i = z_few_121 a_1 i /\ ∀ (i_1 : Nat), z_few_124 i_1 a_3 i ->
 z_few_125 a_3 i i_1 = z_few_125 a_1 i i_1) /\ z_few_131 g a_3 a
abbrev z_few_133 (j : Nat) (g : List Gau) : Prop := j < (fewM g).r.l.length
abbrev z_few_134 (g : List Gau) : Prop := (fewM g).e = (0 : Int)
abbrev z_few_135 (a : FSK) (a1 : FS) : Prop := a.s.k.length = a1.k.length
abbrev z_few_136 (a : FSK) (a1 : FS) : Prop := a.s.b.length = a1.b.length
abbrev z_few_137 (a : FSK) (a1 : FS) : Prop := a.s.l.length = a1.l.length
abbrev z_few_138 (i : Nat) (a : FSK) : Prop := i < a.s.k.length
abbrev z_few_139 (a : FSK) (i : Nat) : Nat := (gD a.s.k i).length
abbrev z_few_140 (i : Nat) (a : FSK) (i1 : Nat) : Prop := i < z_few_139 a i1
abbrev z_few_141 (a : FSK) (i : Nat) (i1 : Nat) : Int := gD (gD a.s.k i) i1
abbrev z_few_142 (a : FSK) (a1 : FSK) : Prop := a.s.k.length = a1.s.k.length
abbrev z_few_143 (a : FSK) (a1 : FSK) : Prop := a.s.b.length = a1.s.b.length
abbrev z_few_144 (a : FSK) (a1 : FSK) : Prop := a.s.l.length = a1.s.l.length
abbrev z_few_145 (a : FS) (a1 : FSK) : Prop := a.k.length = a1.s.k.length
abbrev z_few_146 (a : FS) (a1 : FSK) : Prop := a.b.length = a1.s.b.length
abbrev z_few_147 (a : FS) (a1 : FSK) : Prop := a.l.length = a1.s.l.length
abbrev z_few_148 (a : FSK) : Nat := a.s.b.length + (1 : Nat)
abbrev z_few_149 (a : FSK) : Nat := a.s.l.length + (1 : Nat)
abbrev z_few_150 (a : FSK) : Nat := a.s.k.length + (1 : Nat)
abbrev z_few_151 (a : FS) (a1 : FSK) : Prop := a.k.length = z_few_150 a1
abbrev z_few_152 (a : FS) (a1 : FSK) : Prop := a.b.length = z_few_148 a1
abbrev z_few_153 (a : FS) (a1 : FSK) : Prop := a.l.length = z_few_149 a1
abbrev z_few_154 (i : Nat) (a : FSK) : Bool := decide (i < a.s.l.length)
abbrev z_few_155 (i : Nat) (a : FSK) : Bool := decide (z_few_138 i a)
abbrev z_few_156 (a : FS) : Nat := a.l.length + (1 : Nat)
abbrev z_few_157 (j : Nat) (a : FS) : Bool := decide (z_few_37 j < a.l.length)
abbrev z_few_158 (a : FS) (j : Nat) : Ln := gD a.l (z_few_37 j)
abbrev z_few_159 (g : List Gau) (j : Nat) : Nat := (gD (fewM g).k j).length
abbrev z_few_160 (a : FS) (j : Nat) : List Int := gD a.k (z_few_37 j)
theorem vc_few (g : List Gau) : (V_few g) = ((z_few_2 g /\ z_few_7 g /\ z_few_1 g < (4611686018427387904 : Nat) /\ True) /\ bif z_few_8 g != (0 : Int) then z_few_9 g /\ z_few_9 g /\ z_few_10 g /\ z_few_10 g /\ z_few_11 g /\
 z_few_11 g /\ (fewM g).e = z_few_8 g else ((∃ (a : One), (z_few_12 g /\ Int.ofNat (0 : Nat) = Int.ofNat (0 : Nat) /\ g.length = g.length /\ z_few_13 g /\ z_few_14 /\ z_few_15 /\ z_few_14 /\ z_few_15 /\ z_few_14 /\ z_few_15) /\
 checkG g = (0 : Int)) /\ (∀ (a : One), checkG g = (0 : Int) -> bif decide ((↑(0 : Nat) : Int) < (↑g.length : Int)) then z_few_24 /\ ∃ (a : Nat), (z_few_12 g /\ (↑a : Int) = IntKind.i64.wrap ((↑(0 : Nat) : Int) + (1 : Int)) /\
 g.length = g.length /\ z_few_13 g /\ z_few_14 /\ z_few_15 /\ z_few_14 /\ z_few_15 /\ z_few_14 /\ a = (1 : Nat) /\ a = (1 : Nat) /\ ∀ (i : Nat), i < a -> (↑i : Int) = (↑(0 : Nat) : Int)) /\ z_few_25 g a /\ z_few_26 g a < g.length +
 (1 : Nat) else False) /\ ∀ (a : Nat), z_few_25 g a -> bif decide ((↑a : Int) < (↑g.length : Int)) then ((a = a /\ ((0 : Nat) < a -> z_few_20)) /\ z_few_21 /\ z_few_27 /\ z_few_28 a <= (9223372036854775807 : Nat) /\ z_few_28 a *
 (8 : Nat) <= (140737488355328 : Nat)) /\ ∃ (a_2 : Nat), (z_few_12 g /\ (↑a_2 : Int) = IntKind.i64.wrap ((↑a : Int) + (1 : Int)) /\ g.length = g.length /\ z_few_13 g /\ z_few_14 /\ z_few_15 /\ z_few_14 /\ z_few_15 /\ z_few_14 /\
 z_few_29 a_2 a /\ z_few_29 a_2 a /\ ∀ (i : Nat), i < a_2 -> (↑i : Int) = bif decide (i < a) then (↑i : Int) else (↑a : Int)) /\ z_few_25 g a_2 /\ z_few_26 g a_2 < z_few_26 g a else ∃ (a_2 : One), (g.length = g.length /\
 z_few_13 g /\ z_few_14 /\ z_few_15 /\ z_few_14 /\ z_few_15 /\ z_few_14 /\ (iotI g.length).length = a /\ (iotI g.length).length = a /\ ∀ (i : Nat), i < (iotI g.length).length -> gD (iotI g.length) i = (↑i : Int)) /\ checkG g = (0 :
 Int)) /\ ∀ (a : One), checkG g = (0 : Int) -> ((z_few_14 /\ z_few_32 g /\ z_few_32 g /\ (∀ (i : Nat), z_few_33 i g -> z_few_34 g i = gD (iotI g.length) i) /\ z_few_2 g /\ z_few_7 g /\ z_few_35 g /\ z_few_36 g /\ z_few_31 g < (20 :
 Nat) /\ z_few_31 g < (1073741824 : Nat) /\ ∀ (i : Nat), z_few_33 i g -> (0 : Int) <= z_few_34 g i /\ z_few_34 g i < (↑(z_few_1 g) : Int)) /\ ∃ (a : One), (g.length = g.length /\ z_few_13 g /\ z_few_14 /\ z_few_15 /\ z_few_14 /\
 z_few_15 /\ (ordM g).length = (iotI g.length).length /\ (0 : Nat) + (iotI g.length).length <= z_few_31 g /\ ∀ (j : Nat), j < (ordM g).length -> gD (ordM g) j = gD (stM (keyG (z_few_0 g)) (z_few_30 g)) (z_few_37 j)) /\ checkG g
 = (0 : Int)) /\ ∀ (a : One), checkG g = (0 : Int) -> ((0 : Int) <= (0 : Int) /\ (0 : Int) <= (2000 : Int)) /\ (∃ (a : FS), (z_few_14 /\ z_few_15 /\ (↑a.fr : Int) = (0 : Int) /\ (↑a.to : Int) = (0 : Int) /\ g.length = g.length /\
 z_few_13 g /\ z_few_14 /\ z_few_15 /\ z_few_14 /\ z_few_15 /\ z_few_38 g /\ z_few_39 g /\ z_few_14 /\ z_few_15 /\ z_few_14 /\ z_few_15 /\ a.ln.a0 = z_few_40.a0 /\ a.ln.a1 = z_few_40.a1 /\ a.ln.b0 = z_few_40.b0 /\ a.ln.b1 =
 z_few_40.b1) /\ z_few_42 g a) /\ (∀ (a : FS), z_few_42 g a -> bif z_few_43 a g then (∃ (a_2 : FSK), (z_few_14 /\ z_few_15 /\ z_few_44 a_2 a /\ z_few_45 a_2 a /\ z_few_46 a_2 a /\ g.length = g.length /\ z_few_13 g /\ z_few_14 /\
 z_few_15 /\ z_few_14 /\ z_few_15 /\ z_few_38 g /\ z_few_39 g /\ z_few_14 /\ z_few_15 /\ z_few_14 /\ z_few_15 /\ a_2.s.ln.a0 = a.ln.a0 /\ a_2.s.ln.a1 = a.ln.a1 /\ a_2.s.ln.b0 = a.ln.b0 /\ a_2.s.ln.b1 = a.ln.b1) /\ z_few_49 g a_2 a) /\
 ∀ (a_2 : FSK), z_few_49 g a_2 a -> z_few_56 a_2 g /\ bif z_few_58 a_2 g then ∃ (a_4 : FSK), (z_few_14 /\ z_few_15 /\ z_few_59 a_4 a_2 /\ z_few_60 a_4 a_2 /\ z_few_61 a_4 a_2 /\ g.length = g.length /\ z_few_13 g /\ z_few_14 /\
 z_few_15 /\ z_few_14 /\ z_few_15 /\ z_few_38 g /\ z_few_39 g /\ z_few_14 /\ z_few_15 /\ z_few_14 /\ z_few_15 /\ z_few_62 a_4 a_2 /\ z_few_63 a_4 a_2 /\ z_few_64 a_4 a_2 /\ z_few_65 a_4 a_2) /\ z_few_49 g a_4 a /\ z_few_66 g a_4 a_2
 else z_few_84 a_2 g /\ bif z_few_85 g a_2 then z_few_86 g else z_few_95 a_2 g /\ bif z_few_97 g a_2 then ∃ (a_4 : FS), (z_few_14 /\ z_few_15 /\ z_few_98 a_4 a_2 /\ z_few_99 a_4 a_2 /\ g.length = g.length /\ z_few_13 g /\
 z_few_14 /\ z_few_15 /\ z_few_14 /\ z_few_15 /\ z_few_38 g /\ z_few_39 g /\ z_few_14 /\ z_few_15 /\ z_few_14 /\ z_few_15 /\ z_few_101 a_4 g a_2 /\ z_few_102 a_4 g a_2 /\ z_few_103 a_4 g a_2 /\ z_few_104 a_4 g a_2) /\ z_few_42 g a_4 /\
 z_few_105 g a_4 a else (z_few_54 a_2 g /\ z_few_55 g a_2 /\ z_few_24 /\ z_few_108) /\ ((z_few_109 a_2 g /\ z_few_2 g /\ z_few_7 g /\ z_few_114 a_2 g /\ z_few_115 a_2 g /\ z_few_116 g a_2 /\ z_few_17 /\ z_few_21 /\ z_few_22 /\
 z_few_23 /\ (24 : Nat) <= (140737488355328 : Nat)) /\ ∃ (a_4 : FS), (z_few_14 /\ z_few_117 a_4 /\ z_few_118 a_4 a_2 /\ g.length = g.length /\ z_few_13 g /\ z_few_14 /\ z_few_15 /\ z_few_14 /\ z_few_15 /\ z_few_38 g /\ z_few_39 g /\
 z_few_14 /\ z_few_119 a_4 /\ z_few_14 /\ z_few_120 a_4 /\ a_4.ln.a0 = a_2.s.ln.a0 /\ a_4.ln.a1 = a_2.s.ln.a1 /\ a_4.ln.b0 = a_2.s.ln.b0 /\ a_4.ln.b1 = a_2.s.ln.b1 /\ z_few_119 a_4 /\ (∀ (i : Nat), i < a_4.b.length -> gD a_4.b i =
 z_few_57 g a_2) /\ z_few_120 a_4 /\ (∀ (i : Nat), i < a_4.l.length -> (gD a_4.l i).a0 = a_2.s.ln.a0 /\ (gD a_4.l i).a1 = a_2.s.ln.a1 /\ (gD a_4.l i).b0 = a_2.s.ln.b0 /\ (gD a_4.l i).b1 = a_2.s.ln.b1) /\ z_few_117 a_4 /\ ∀ (i :
 Nat), i < a_4.k.length -> z_few_121 a_4 i = z_few_123 g a_2 /\ ∀ (i_1 : Nat), z_few_124 i_1 a_4 i -> z_few_125 a_4 i i_1 = z_few_126 g a_2 i_1) /\ z_few_127 g a_4 a) /\ z_few_132 g a else z_few_108 /\ z_few_9 g /\ z_few_9 g /\
 (fewM g).r.l.length = (1 : Nat) /\ z_few_18 /\ (∀ (j : Nat), z_few_133 j g -> (gD (fewM g).r.l j).a0 = a.ln.a0 /\ (gD (fewM g).r.l j).a1 = a.ln.a1 /\ (gD (fewM g).r.l j).b0 = a.ln.b0 /\ (gD (fewM g).r.l j).b1 = a.ln.b1) /\
 z_few_11 g /\ z_few_11 g /\ z_few_134 g) /\ ∀ (a : FS), z_few_41 g a -> bif z_few_43 a g then (∃ (a_2 : FSK), (z_few_14 /\ z_few_135 a_2 a /\ z_few_44 a_2 a /\ z_few_45 a_2 a /\ z_few_46 a_2 a /\ g.length = g.length /\ z_few_13 g
 /\ z_few_14 /\ z_few_15 /\ z_few_14 /\ z_few_15 /\ z_few_38 g /\ z_few_39 g /\ z_few_14 /\ z_few_136 a_2 a /\ z_few_14 /\ z_few_137 a_2 a /\ a_2.s.ln.a0 = a.ln.a0 /\ a_2.s.ln.a1 = a.ln.a1 /\ a_2.s.ln.b0 = a.ln.b0 /\ a_2.s.ln.b1 =
 a.ln.b1 /\ z_few_136 a_2 a /\ (∀ (i : Nat), i < a_2.s.b.length -> gD a_2.s.b i = gD a.b i) /\ z_few_137 a_2 a /\ (∀ (i : Nat), i < a_2.s.l.length -> (gD a_2.s.l i).a0 = (gD a.l i).a0 /\ (gD a_2.s.l i).a1 = (gD a.l i).a1 /\ (gD
 a_2.s.l i).b0 = (gD a.l i).b0 /\ (gD a_2.s.l i).b1 = (gD a.l i).b1) /\ z_few_135 a_2 a /\ ∀ (i : Nat), z_few_138 i a_2 -> z_few_139 a_2 i = z_few_121 a i /\ ∀ (i_1 : Nat), z_few_140 i_1 a_2 i -> z_few_141 a_2 i i_1 = z_few_125
 a i i_1) /\ z_few_48 g a_2 a) /\ ∀ (a_2 : FSK), z_few_48 g a_2 a -> z_few_56 a_2 g /\ bif z_few_58 a_2 g then ∃ (a_4 : FSK), (z_few_14 /\ z_few_142 a_4 a_2 /\ z_few_59 a_4 a_2 /\ z_few_60 a_4 a_2 /\ z_few_61 a_4 a_2 /\ g.length =
 g.length /\ z_few_13 g /\ z_few_14 /\ z_few_15 /\ z_few_14 /\ z_few_15 /\ z_few_38 g /\ z_few_39 g /\ z_few_14 /\ z_few_143 a_4 a_2 /\ z_few_14 /\ z_few_144 a_4 a_2 /\ z_few_62 a_4 a_2 /\ z_few_63 a_4 a_2 /\ z_few_64 a_4 a_2 /\
 z_few_65 a_4 a_2 /\ z_few_143 a_4 a_2 /\ (∀ (i : Nat), i < a_4.s.b.length -> gD a_4.s.b i = gD a_2.s.b i) /\ z_few_144 a_4 a_2 /\ (∀ (i : Nat), i < a_4.s.l.length -> (gD a_4.s.l i).a0 = (gD a_2.s.l i).a0 /\ (gD a_4.s.l i).a1 =
 (gD a_2.s.l i).a1 /\ (gD a_4.s.l i).b0 = (gD a_2.s.l i).b0 /\ (gD a_4.s.l i).b1 = (gD a_2.s.l i).b1) /\ z_few_142 a_4 a_2 /\ ∀ (i : Nat), z_few_138 i a_4 -> z_few_139 a_4 i = z_few_139 a_2 i /\ ∀ (i_1 : Nat), z_few_140 i_1 a_4
 i -> z_few_141 a_4 i i_1 = z_few_141 a_2 i i_1) /\ z_few_48 g a_4 a /\ z_few_66 g a_4 a_2 else z_few_84 a_2 g /\ bif z_few_85 g a_2 then z_few_86 g else z_few_95 a_2 g /\ bif z_few_97 g a_2 then ∃ (a_4 : FS), (z_few_14 /\
 z_few_145 a_4 a_2 /\ z_few_98 a_4 a_2 /\ z_few_99 a_4 a_2 /\ g.length = g.length /\ z_few_13 g /\ z_few_14 /\ z_few_15 /\ z_few_14 /\ z_few_15 /\ z_few_38 g /\ z_few_39 g /\ z_few_14 /\ z_few_146 a_4 a_2 /\ z_few_14 /\ z_few_147 a_4
 a_2 /\ z_few_101 a_4 g a_2 /\ z_few_102 a_4 g a_2 /\ z_few_103 a_4 g a_2 /\ z_few_104 a_4 g a_2 /\ z_few_146 a_4 a_2 /\ (∀ (i : Nat), i < a_4.b.length -> gD a_4.b i = gD a_2.s.b i) /\ z_few_147 a_4 a_2 /\ (∀ (i : Nat), i <
 a_4.l.length -> (gD a_4.l i).a0 = (gD a_2.s.l i).a0 /\ (gD a_4.l i).a1 = (gD a_2.s.l i).a1 /\ (gD a_4.l i).b0 = (gD a_2.s.l i).b0 /\ (gD a_4.l i).b1 = (gD a_2.s.l i).b1) /\ z_few_145 a_4 a_2 /\ ∀ (i : Nat), i < a_4.k.length ->
 z_few_121 a_4 i = z_few_139 a_2 i /\ ∀ (i_1 : Nat), z_few_124 i_1 a_4 i -> z_few_125 a_4 i i_1 = z_few_141 a_2 i i_1) /\ z_few_131 g a_4 a else (z_few_54 a_2 g /\ z_few_55 g a_2 /\ ((a_2.s.b.length = a_2.s.b.length /\ ((0 :
 Nat) < a_2.s.b.length -> z_few_20)) /\ z_few_21 /\ z_few_27 /\ z_few_148 a_2 <= (9223372036854775807 : Nat) /\ z_few_148 a_2 * (8 : Nat) <= (140737488355328 : Nat)) /\ (a_2.s.l.length = a_2.s.l.length /\ ((0 : Nat) <
 a_2.s.l.length -> z_few_106)) /\ z_few_107 /\ z_few_27 /\ z_few_149 a_2 <= (9223372036854775807 : Nat) /\ z_few_149 a_2 * (32 : Nat) <= (140737488355328 : Nat)) /\ ((z_few_109 a_2 g /\ z_few_2 g /\ z_few_7 g /\ z_few_114 a_2 g /\
 z_few_115 a_2 g /\ z_few_116 g a_2 /\ (a_2.s.k.length = a_2.s.k.length /\ ((0 : Nat) < a_2.s.k.length -> z_few_20)) /\ z_few_21 /\ z_few_27 /\ z_few_150 a_2 <= (9223372036854775807 : Nat) /\ z_few_150 a_2 * (24 : Nat) <=
 (140737488355328 : Nat)) /\ ∃ (a_4 : FS), (z_few_14 /\ z_few_151 a_4 a_2 /\ z_few_118 a_4 a_2 /\ g.length = g.length /\ z_few_13 g /\ z_few_14 /\ z_few_15 /\ z_few_14 /\ z_few_15 /\ z_few_38 g /\ z_few_39 g /\ z_few_14 /\ z_few_152
 a_4 a_2 /\ z_few_14 /\ z_few_153 a_4 a_2 /\ a_4.ln.a0 = a_2.s.ln.a0 /\ a_4.ln.a1 = a_2.s.ln.a1 /\ a_4.ln.b0 = a_2.s.ln.b0 /\ a_4.ln.b1 = a_2.s.ln.b1 /\ z_few_152 a_4 a_2 /\ (∀ (i : Nat), i < a_4.b.length -> gD a_4.b i = bif
 decide (i < a_2.s.b.length) then gD a_2.s.b i else z_few_57 g a_2) /\ z_few_153 a_4 a_2 /\ (∀ (i : Nat), i < a_4.l.length -> ((gD a_4.l i).a0 = bif z_few_154 i a_2 then (gD a_2.s.l i).a0 else a_2.s.ln.a0) /\ ((gD a_4.l i).a1
 = bif z_few_154 i a_2 then (gD a_2.s.l i).a1 else a_2.s.ln.a1) /\ ((gD a_4.l i).b0 = bif z_few_154 i a_2 then (gD a_2.s.l i).b0 else a_2.s.ln.b0) /\ (gD a_4.l i).b1 = bif z_few_154 i a_2 then (gD a_2.s.l i).b1 else
 a_2.s.ln.b1) /\ z_few_151 a_4 a_2 /\ ∀ (i : Nat), i < a_4.k.length -> (z_few_121 a_4 i = bif z_few_155 i a_2 then z_few_139 a_2 i else z_few_123 g a_2) /\ ∀ (i_1 : Nat), z_few_124 i_1 a_4 i -> z_few_125 a_4 i i_1 = bif
 z_few_155 i a_2 then z_few_141 a_2 i i_1 else z_few_126 g a_2 i_1) /\ z_few_127 g a_4 a) /\ z_few_132 g a else ((a.l.length = a.l.length /\ ((0 : Nat) < a.l.length -> z_few_106)) /\ z_few_107 /\ z_few_27 /\ z_few_156 a <=
 (9223372036854775807 : Nat) /\ z_few_156 a * (32 : Nat) <= (140737488355328 : Nat)) /\ (fewM g).r.b.length = a.b.length /\ (0 : Nat) + a.b.length <= a.b.length /\ (∀ (j : Nat), j < (fewM g).r.b.length -> gD (fewM g).r.b j = gD
 a.b (z_few_37 j)) /\ (fewM g).r.l.length = z_few_156 a /\ (0 : Nat) + z_few_156 a <= z_few_156 a /\ (∀ (j : Nat), z_few_133 j g -> ((gD (fewM g).r.l j).a0 = bif z_few_157 j a then (z_few_158 a j).a0 else a.ln.a0) /\ ((gD (fewM
 g).r.l j).a1 = bif z_few_157 j a then (z_few_158 a j).a1 else a.ln.a1) /\ ((gD (fewM g).r.l j).b0 = bif z_few_157 j a then (z_few_158 a j).b0 else a.ln.b0) /\ (gD (fewM g).r.l j).b1 = bif z_few_157 j a then (z_few_158 a
 j).b1 else a.ln.b1) /\ (fewM g).k.length = a.k.length /\ (0 : Nat) + a.k.length <= a.k.length /\ (∀ (j : Nat), j < (fewM g).k.length -> z_few_159 g j = (z_few_160 a j).length /\ ∀ (i : Nat), i < z_few_159 g j -> gD (gD (fewM
 g).k j) i = gD (z_few_160 a j) i) /\ z_few_134 g) := by kernel_rfl
theorem iot_len (n : Nat) : (iotI n).length = n := by simp [iotI]
theorem iot_gD {n i : Nat} (h : i < n) : gD (iotI n) i = i := by simp [iotI, gD, List.getD_eq_getElem?_getD, h]
theorem ord_perm (g : List Gau) : (ordM g).Perm (iotI g.length) := stM_perm _ _
theorem ord_len (g : List Gau) : (ordM g).length = g.length := by rw [(ord_perm g).length_eq, iot_len]
theorem ord_mem {g : List Gau} {x : Int} (h : x ∈ ordM g) : 0 <= x /\ x < g.length := by
 have := (ord_perm g).mem_iff.1 h
 unfold iotI at this
 obtain ⟨i, hi, rfl⟩ := List.mem_map.1 this
 have := List.mem_range.1 hi
 exact ⟨Int.natCast_nonneg _, Int.ofNat_lt.2 this⟩
theorem ord_gD {g : List Gau} {i : Nat} (h : i < g.length) : 0 <= gD (ordM g) i /\ gD (ordM g) i < g.length := ord_mem (gD_mem (by rw [ord_len]; exact h))
theorem rng_seg {l : List Int} {a b : Nat} (h : b <= l.length) : (rng (b - a) λ i => gD l (a + i)) = (l.take b).drop a := by
 apply ext_gD
 ·rw [rng_length, List.length_drop, List.length_take]; omega
 ·intro i hi
  rw [rng_length] at hi
  rw [rng_get _ _ _ hi, gD_drop]
  simp [gD, List.getD_eq_getElem?_getD, List.getElem?_take, show a + i < b by omega]
theorem pk_ok {g : List Gau} (hc : checkG g = 0) (a b : Int) : (pkM ⟨g, ordM g, a, b⟩).length < 1073741824 /\ ∀ x ∈ pkM ⟨g, ordM g, a, b⟩, okG x := by
 obtain ⟨⟨h1, h2⟩, h3⟩ := check_ok hc
 refine ⟨?_, λ x hx => ?_⟩
 ·unfold pkM pkL; rw [List.length_map, List.length_drop, List.length_take, ord_len]; omega
 ·unfold pkM at hx
  obtain ⟨i, hi, rfl⟩ := List.mem_map.1 hx
  have := ord_mem (pkL_mem hi)
  exact h3 _ (gD_mem (by omega))
theorem nxK_le {g : List Gau} {o : List Int} {t : Nat} : ∀ (n k : Nat), k <= nxK g o t n k /\ nxK g o t n k <= k + n
 | 0, k => ⟨Nat.le_refl _, Nat.le_refl _⟩
 | n + 1, k => by
  unfold nxK
  cases keyG g (gD o k) == keyG g (gD o t)
  ·exact ⟨Nat.le_refl _, by show k <= _; omega⟩
  ·have := nxK_le (g := g) (o := o) (t := t) n (k + 1); show k <= nxK g o t n (k + 1) /\ nxK g o t n (k + 1) <= _; omega
theorem nx_in {g : List Gau} {t : Nat} (h : t < g.length) : t < nxM g (ordM g) t /\ nxM g (ordM g) t <= g.length := by
 unfold nxM
 rw [ord_len]
 obtain ⟨n, hn⟩ : ∃ n, g.length - t = n + 1 := ⟨g.length - t - 1, by omega⟩
 rw [hn]; unfold nxK
 rw [show (keyG g (gD (ordM g) t) == keyG g (gD (ordM g) t)) = true by simp]
 have := nxK_le (g := g) (o := ordM g) (t := t) n (t + 1)
 show t < nxK g (ordM g) t n (t + 1) /\ nxK g (ordM g) t n (t + 1) <= _
 omega
theorem few_fuel {g : List Gau} : ∀ (m n : Nat) (s : FS), s.fr <= s.to -> s.to <= g.length -> msF (ordM g) s + 1 <= m -> msF (ordM g) s + 1 <= n -> fewR g (ordM g) m s = fewR g (ordM g) n s
 | 0, _, _, _, _, h, _ => by omega
 | m + 1, 0, _, _, _, _, h => by omega
 | m + 1, n + 1, s, h0, h1, h2, h3 => by
  unfold fewR
  by_cases hl : s.to < (ordM g).length
  ·rw [decide_eq_true hl]
   rw [ord_len] at hl
   have hx := nx_in hl
   unfold msF at h2 h3
   rw [ord_len] at h2 h3
   cases hq : (lineM (pkR g (ordM g) s.to (nxM g (ordM g) s.to))).2
   ·rfl
   ·cases hr : (lineM (pkR g (ordM g) s.fr (nxM g (ordM g) s.to))).2
    ·have hne : s.fr ≠ s.to := λ he => by rw [he, hq] at hr; cases hr
     rw [if_pos (by omega)] at h2 h3
     refine few_fuel m n (brkF g (ordM g) s) (Nat.le_refl _) h1 ?_ ?_ <;> (unfold msF brkF; rw [ord_len]; simp only [Nat.lt_irrefl, if_false]; omega)
    ·refine few_fuel m n (goF g (ordM g) s) (by show s.fr <= nxM _ _ _; omega) hx.2 ?_ ?_ <;> (unfold msF goF; rw [ord_len]; simp only []; split at h2 <;> split <;> omega)
  ·rw [decide_eq_false hl]; rfl
theorem fewR_s (g : List Gau) (o : List Int) (n : Nat) (s : FS) : fewR g o (n + 1) s = bif decide (s.to < o.length) then (bif (lineM (pkR g o s.to (nxM g o s.to))).2 then (bif (lineM (pkR g o s.fr (nxM g o s.to))).2 then fewR g o n (goF g o s) else fewR g o n (brkF g o s)) else ⟨⟨[], []⟩, [], 6⟩) else ⟨⟨s.b, s.l ++ [s.ln]⟩, s.k, 0⟩ := rfl
theorem F_end {g : List Gau} {s : FS} (h : invF g s) (ht : ¬s.to < g.length) : fewM g = ⟨⟨s.b, s.l ++ [s.ln]⟩, s.k, 0⟩ := by
 rw [h.2.2.2.2.2.2 _ (Nat.le_refl _)]; unfold fewR; rw [decide_eq_false (by rw [ord_len]; exact ht)]; rfl
theorem F_bad {g : List Gau} {s : FS} (h : invF g s) (ht : s.to < g.length) (hq : (lineM (pkR g (ordM g) s.to (nxM g (ordM g) s.to))).2 = false) : fewM g = ⟨⟨[], []⟩, [], 6⟩ := by
 rw [h.2.2.2.2.2.2 _ (Nat.le_refl _)]; unfold fewR; rw [decide_eq_true (by rw [ord_len]; exact ht), hq]; rfl
theorem F_go {g : List Gau} {s : FS} (h : invF g s) (ht : s.to < g.length) (hq : (lineM (pkR g (ordM g) s.to (nxM g (ordM g) s.to))).2 = true) (hr : (lineM (pkR g (ordM g) s.fr (nxM g (ordM g) s.to))).2 = true) : invF g (goF g (ordM g) s) /\ msF (ordM g) (goF g (ordM g) s) < msF (ordM g) s := by
 obtain ⟨h1, h2, h3, h4, h5, h6, h7⟩ := h
 have hx := nx_in ht
 have hm : msF (ordM g) (goF g (ordM g) s) < msF (ordM g) s := by unfold msF goF; rw [ord_len]; simp only []; split <;> split <;> omega
 refine ⟨⟨h1, by show s.fr <= nxM _ _ _; omega, hx.2, h4, h5, h6, λ m hm2 => ?_⟩, hm⟩
 rw [h7 (msF (ordM g) s + 1) (Nat.le_refl _), fewR_s, decide_eq_true (by rw [ord_len]; exact ht), hq, hr]
 exact few_fuel (msF (ordM g) s) m (goF g (ordM g) s) (by show s.fr <= nxM _ _ _; omega) hx.2 hm hm2
theorem F_brk {g : List Gau} {s : FS} (h : invF g s) (ht : s.to < g.length) (hq : (lineM (pkR g (ordM g) s.to (nxM g (ordM g) s.to))).2 = true) (hr : (lineM (pkR g (ordM g) s.fr (nxM g (ordM g) s.to))).2 = false) : invF g (brkF g (ordM g) s) /\ msF (ordM g) (brkF g (ordM g) s) < msF (ordM g) s := by
 obtain ⟨h1, h2, h3, h4, h5, h6, h7⟩ := h
 have hx := nx_in ht
 have hne : s.fr ≠ s.to := λ he => by rw [he, hq] at hr; cases hr
 have hm : msF (ordM g) (brkF g (ordM g) s) < msF (ordM g) s := by unfold msF brkF; rw [ord_len]; simp only [Nat.lt_irrefl, if_false]; rw [if_pos (by omega)]; omega
 refine ⟨⟨h1, Nat.le_refl _, h3, by show (s.b ++ [_]).length <= s.to; simp; omega, by show (s.l ++ [_]).length = (s.b ++ [_]).length; simp; omega, by show (s.k ++ [_]).length = (s.b ++ [_]).length; simp; omega, λ m hm2 => ?_⟩, hm⟩
 rw [h7 (msF (ordM g) s + 1) (Nat.le_refl _), fewR_s, decide_eq_true (by rw [ord_len]; exact ht), hq, hr]
 exact few_fuel (msF (ordM g) s) m (brkF g (ordM g) s) (Nat.le_refl _) h3 hm hm2
theorem nx_step {g : List Gau} {t n : Nat} (hn : n < g.length) (h : keyG g (gD (ordM g) n) = keyG g (gD (ordM g) t)) : nxK g (ordM g) t (g.length - n) n = nxK g (ordM g) t (g.length - (n + 1)) (n + 1) := by
 obtain ⟨m, hm⟩ : ∃ m, g.length - n = m + 1 := ⟨g.length - n - 1, by omega⟩
 rw [hm, show g.length - (n + 1) = m by omega]
 conv => lhs; unfold nxK
 rw [show (keyG g (gD (ordM g) n) == keyG g (gD (ordM g) t)) = true by rw [h]; simp]; rfl
theorem nx_stop {g : List Gau} {t n : Nat} (hn : n <= g.length) (h : (bif decide (n < g.length) then keyG g (gD (ordM g) n) == keyG g (gD (ordM g) t) else false) = false) : nxK g (ordM g) t (g.length - n) n = n := by
 by_cases hl : n < g.length
 ·rw [decide_eq_true hl] at h
  have h : (keyG g (gD (ordM g) n) == keyG g (gD (ordM g) t)) = false := h
  obtain ⟨m, hm⟩ : ∃ m, g.length - n = m + 1 := ⟨g.length - n - 1, by omega⟩
  rw [hm]; unfold nxK; rw [h]; rfl
 ·rw [show g.length - n = 0 by omega]; rfl
theorem nx_go {g : List Gau} {t n : Nat} (h : (bif decide (n < g.length) then keyG g (gD (ordM g) n) == keyG g (gD (ordM g) t) else false) = true) : n < g.length /\ keyG g (gD (ordM g) n) = keyG g (gD (ordM g) t) := by
 cases hd : decide (n < g.length) with
 | false => rw [hd] at h; cases h
 | true => rw [hd] at h; exact ⟨of_decide_eq_true hd, by simpa using h⟩
theorem snocI (l : List Int) (p : Int) (i : Nat) (hi : i < (l ++ [p]).length) : gD (l ++ [p]) i = bif decide (i < l.length) then gD l i else p := gD_snoc _ _ (by simpa using hi)
theorem p_few (g : List Gau) (hg : g.length < 20) : V_few g := by
 rw [vc_few]; delta z_few_0 z_few_1 z_few_2 z_few_3 z_few_4 z_few_5 z_few_6 z_few_7 z_few_8 z_few_9 z_few_10 z_few_11 z_few_12 z_few_13 z_few_14 z_few_15 z_few_16 z_few_17 z_few_18 z_few_19 z_few_20 z_few_21 z_few_22 z_few_23 z_few_24 z_few_25 z_few_26 z_few_27 z_few_28 z_few_29 z_few_30 z_few_31 z_few_32 z_few_33 z_few_34 z_few_35 z_few_36 z_few_37 z_few_38 z_few_39 z_few_40 z_few_41 z_few_42 z_few_43 z_few_44 z_few_45 z_few_46 z_few_47 z_few_48 z_few_49 z_few_50 z_few_51 z_few_52 z_few_53 z_few_54 z_few_55 z_few_56 z_few_57 z_few_58 z_few_59 z_few_60 z_few_61 z_few_62 z_few_63 z_few_64 z_few_65 z_few_66 z_few_67 z_few_68 z_few_69 z_few_70 z_few_71 z_few_72 z_few_73 z_few_74 z_few_75 z_few_76 z_few_77 z_few_78 z_few_79 z_few_80 z_few_81 z_few_82 z_few_83 z_few_84 z_few_85 z_few_86 z_few_87 z_few_88 z_few_89 z_few_90 z_few_91 z_few_92 z_few_93 z_few_94 z_few_95 z_few_96 z_few_97 z_few_98 z_few_99 z_few_100 z_few_101 z_few_102 z_few_103 z_few_104 z_few_105 z_few_106 z_few_107 z_few_108 z_few_109 z_few_110 z_few_111 z_few_112 z_few_113 z_few_114 z_few_115 z_few_116 z_few_117 z_few_118 z_few_119 z_few_120 z_few_121 z_few_122 z_few_123 z_few_124 z_few_125 z_few_126 z_few_127 z_few_128 z_few_129 z_few_130 z_few_131 z_few_132 z_few_133 z_few_134 z_few_135 z_few_136 z_few_137 z_few_138 z_few_139 z_few_140 z_few_141 z_few_142 z_few_143 z_few_144 z_few_145 z_few_146 z_few_147 z_few_148 z_few_149 z_few_150 z_few_151 z_few_152 z_few_153 z_few_154 z_few_155 z_few_156 z_few_157 z_few_158 z_few_159 z_few_160; simp only [condP, eq_self, implies_true, and_self, true_and, and_true, true_implies, forall_const, decide_eq_true_eq, decide_eq_false_iff_not, Int.toNat_natCast, dSpan_eSpan, dInt_eInt, dGau_e, dPt_e, dLn_e, dRt_e, Nat.zero_add, Int.zero_sub, Nat.le_eq, Nat.succ_eq_add_one, Nat.add_one_le_iff, Bool.not_eq_true', Bool.not_eq_false', rng_length, dSpan_mk, rng_getD, Int.ofNat_lt]
 have zz : ∀ n, fewM g = ⟨⟨[], []⟩, [], n⟩ -> (fewM g).r.b.length = 0 /\ (fewM g).r.b.length = 0 /\ (fewM g).r.l.length = 0 /\ (fewM g).r.l.length = 0 /\ (fewM g).k.length = 0 /\ (fewM g).k.length = 0 /\ (fewM g).e = n := λ n h => by rw [h]; exact ⟨rfl, rfl, rfl, rfl, rfl, rfl, rfl⟩
 refine ⟨by omega, λ he => ?_, λ he => ?_⟩
 ·refine zz _ ?_
  unfold fewM; rw [show (checkG g == 0) = false by simpa using he]; rfl
 ·have hc : checkG g = 0 := by simpa using he
  have hck := check_ok hc
  refine ⟨⟨⟨default, hc⟩, λ _ => ⟨λ h0 => ⟨⟨by omega, by omega, by omega, by omega, by omega⟩, 1, ⟨(wsucc (a := 0) (by omega)).symm, rfl, rfl, λ i hi => by rw [show i = 0 by omega]⟩, ⟨hc, by omega, by omega⟩, by omega⟩, λ h0 => by omega⟩, λ k ⟨_, k1, k2⟩ => ⟨λ hlt => ⟨⟨by omega, λ h => (by cases h), by omega, by omega⟩, k + 1, ⟨(wsucc (by omega)).symm, rfl, rfl, λ i hi => ?_⟩, ⟨hc, by omega, by omega⟩, by omega⟩, λ hge => ⟨default, ⟨?_, ?_, λ i hi => ?_⟩, hc⟩⟩⟩, λ _ => ⟨⟨⟨by rw [iot_len]; exact hg, by rw [iot_len]; omega, λ i hi => ?_⟩, default, ⟨?_, Nat.le_refl _, λ _ _ => rfl⟩, hc⟩, λ _ => ⟨⟨by omega, by omega⟩, ⟨ini0, ⟨rfl, rfl, rfl, rfl, rfl, rfl⟩, ⟨hc, Nat.le_refl _, Nat.zero_le _, Nat.le_refl _, rfl, rfl, λ m hm => ?_⟩, rfl, rfl, rfl⟩, λ s hs => ?_, λ s hs => ?_⟩⟩⟩
  ·by_cases h : i < k
   ·rw [decide_eq_true h]; rfl
   ·rw [decide_eq_false h, show i = k by omega]; rfl
  ·rw [iot_len]; omega
  ·rw [iot_len]; omega
  ·rw [iot_len] at hi; exact iot_gD hi
  ·rw [iot_len] at hi; rw [iot_gD hi]; omega
  ·rw [ord_len, iot_len]
  ·unfold fewM; rw [show (checkG g == 0) = true by rw [hc]; rfl]
   exact few_fuel _ _ _ (Nat.le_refl _) (Nat.zero_le _) (by unfold msF ini0; rw [ord_len]; simp) hm
  ·obtain ⟨hI, hb, hl, hk⟩ : invF g s /\ s.b = [] /\ s.l = [] /\ s.k = [] := hs
   refine ⟨λ ht => ?_, λ ht => ?_⟩
   ·have ht : s.to < g.length := by rw [ord_len] at ht; exact ht
    refine ⟨⟨⟨s, s.to⟩, ⟨rfl, rfl, rfl, rfl, rfl, rfl, rfl⟩, ⟨hI, rfl, ht, Nat.le_refl _, Nat.le_of_lt ht, ?_⟩, hb, hl, hk⟩, λ x hx => ?_⟩
    ·unfold nxM; rw [ord_len]
    ·obtain ⟨⟨xI, x1, x2, x3, x4, x5⟩, xb, xl, xk⟩ : inv17 g (msF (ordM g) s) x /\ x.s.b = [] /\ x.s.l = [] /\ x.s.k = [] := hx
     refine ⟨⟨λ h => ⟨by omega, by omega⟩, λ h => ord_gD (by rw [ord_len] at h; exact h), λ h => ⟨by omega, by rw [ord_len]; omega⟩, λ _ => ord_gD x2⟩, λ hq => ?_, λ hq => ?_⟩
     ·rw [ord_len] at hq
      obtain ⟨q1, q2⟩ := nx_go hq
      exact ⟨⟨x.s, x.n + 1⟩, ⟨rfl, rfl, (wsucc (by omega)).symm, rfl, rfl, rfl, rfl⟩, ⟨⟨xI, x1, x2, by show x.s.to <= x.n + 1; omega, q1, x5.trans (nx_step q1 q2)⟩, xb, xl, xk⟩, by show g.length - (x.n + 1) < _; omega⟩
     ·rw [ord_len] at hq
      have hn : nxM g (ordM g) x.s.to = x.n := x5.trans (nx_stop x4 hq)
      have e1 : pkM ⟨g, ordM g, x.s.to, x.n⟩ = pkR g (ordM g) x.s.to (nxM g (ordM g) x.s.to) := by rw [hn]; rfl
      have e2 : pkM ⟨g, ordM g, x.s.fr, x.n⟩ = pkR g (ordM g) x.s.fr (nxM g (ordM g) x.s.to) := by rw [hn]; rfl
      have hfr : x.s.fr <= x.s.to := xI.2.1
      have hbl : x.s.b.length <= x.s.fr := xI.2.2.2.1
      have hll : x.s.l.length = x.s.b.length := xI.2.2.2.2.1
      have hkl : x.s.k.length = x.s.b.length := xI.2.2.2.2.2.1
      refine ⟨⟨⟨⟨by omega, by omega, by rw [ord_len]; omega, by rw [ord_len]; omega⟩, λ _ h => ord_mem h⟩, pk_ok hc _ _⟩, λ hb1 => zz _ (F_bad xI x2 (by rw [<- e1]; exact hb1)), λ hb1 => ⟨⟨⟨⟨by omega, by omega, by rw [ord_len]; omega, by rw [ord_len]; omega⟩, λ _ h => ord_mem h⟩, pk_ok hc _ _⟩, λ hb2 => ?_, λ hb2 => ?_⟩⟩
      ·obtain ⟨f1, f2⟩ := F_go xI x2 (by rw [<- e1]; exact hb1) (by rw [<- e2]; exact hb2)
       exact ⟨goF g (ordM g) x.s, ⟨rfl, by show ((nxM g (ordM g) x.s.to : Nat) : Int) = x.n; rw [hn], by rw [e2]; rfl, by rw [e2]; rfl, by rw [e2]; rfl, by rw [e2]; rfl⟩, ⟨f1, xb, xl, xk⟩, by rw [<- x1]; exact f2⟩
      ·obtain ⟨f1, f2⟩ := F_brk xI x2 (by rw [<- e1]; exact hb1) (by rw [<- e2]; exact hb2)
       have eB : brkF g (ordM g) x.s = ⟨x.s.to, x.s.to, x.s.ln, [keyG g (gD (ordM g) x.s.to)], [x.s.ln], [kntM ⟨g, ((ordM g).take x.n).drop x.s.fr⟩]⟩ := by unfold brkF; rw [xb, xl, xk, hn]; rfl
       rw [eB] at f1 f2
       rw [rng_seg (by rw [ord_len]; exact x4)]
       refine ⟨⟨⟨by omega, by rw [ord_len]; omega⟩, ord_gD x2, ⟨by omega, by omega, by omega, by omega, by omega⟩, by omega, by omega, by omega, by omega, by omega⟩, ⟨⟨⟨by omega, by omega, by rw [ord_len]; omega⟩, λ i hi => ?_, ⟨⟨by omega, by omega⟩, hck.2⟩, by omega, by omega, by omega, by omega, by omega⟩, ⟨x.s.to, x.s.to, x.s.ln, [keyG g (gD (ordM g) x.s.to)], [x.s.ln], [kntM ⟨g, ((ordM g).take x.n).drop x.s.fr⟩]⟩, ⟨rfl, rfl, rfl, rfl, rfl, rfl, rfl, rfl, rfl, λ i hi => (by rw [show i = 0 by have h1 : i < 1 := hi; omega]; rfl), rfl, oneL _, rfl, λ i hi => (by rw [show i = 0 by have h1 : i < 1 := hi; omega]; exact ⟨rfl, λ _ _ => rfl⟩)⟩, f1, rfl, by rw [<- x1]; exact f2⟩, λ y ⟨y1, y2, y3⟩ => ⟨y, ⟨rfl, by rw [y2], rfl, rfl, rfl, rfl, rfl, rfl, rfl, rfl, λ _ _ => rfl, rfl, λ _ _ => ⟨rfl, rfl, rfl, rfl⟩, rfl, λ _ _ => ⟨rfl, λ _ _ => rfl⟩⟩, y1, y3⟩⟩
       rw [gD_drop]; simp [gD, List.getD_eq_getElem?_getD, List.getElem?_take, show x.s.fr + i < x.n by omega]
   ·rw [ord_len] at ht
    rw [F_end hI ht, hb, hl, hk]
    exact ⟨⟨by omega, by omega, by omega, by omega, by omega⟩, rfl, rfl, rfl, by omega, oneL _, rfl, rfl, rfl⟩
  ·have hI : invF g s := hs
   have hbl : s.b.length <= s.fr := hI.2.2.2.1
   have hll : s.l.length = s.b.length := hI.2.2.2.2.1
   have hkl : s.k.length = s.b.length := hI.2.2.2.2.2.1
   have hfr : s.fr <= s.to := hI.2.1
   have hto : s.to <= g.length := hI.2.2.1
   refine ⟨λ ht => ?_, λ ht => ?_⟩
   ·have ht : s.to < g.length := by rw [ord_len] at ht; exact ht
    refine ⟨⟨⟨s, s.to⟩, ⟨rfl, rfl, rfl, rfl, rfl, rfl, rfl, rfl, rfl, rfl, rfl, λ _ _ => rfl, rfl, λ _ _ => ⟨rfl, rfl, rfl, rfl⟩, rfl, λ _ _ => ⟨rfl, λ _ _ => rfl⟩⟩, hI, rfl, ht, Nat.le_refl _, Nat.le_of_lt ht, ?_⟩, λ x hx => ?_⟩
    ·unfold nxM; rw [ord_len]
    ·obtain ⟨xI, x1, x2, x3, x4, x5⟩ : inv17 g (msF (ordM g) s) x := hx
     refine ⟨⟨λ h => ⟨by omega, by omega⟩, λ h => ord_gD (by rw [ord_len] at h; exact h), λ h => ⟨by omega, by rw [ord_len]; omega⟩, λ _ => ord_gD x2⟩, λ hq => ?_, λ hq => ?_⟩
     ·rw [ord_len] at hq
      obtain ⟨q1, q2⟩ := nx_go hq
      exact ⟨⟨x.s, x.n + 1⟩, ⟨rfl, rfl, rfl, (wsucc (by omega)).symm, rfl, rfl, rfl, rfl, rfl, rfl, rfl, λ _ _ => rfl, rfl, λ _ _ => ⟨rfl, rfl, rfl, rfl⟩, rfl, λ _ _ => ⟨rfl, λ _ _ => rfl⟩⟩, ⟨xI, x1, x2, by show x.s.to <= x.n + 1; omega, q1, x5.trans (nx_step q1 q2)⟩, by show g.length - (x.n + 1) < _; omega⟩
     ·rw [ord_len] at hq
      have hn : nxM g (ordM g) x.s.to = x.n := x5.trans (nx_stop x4 hq)
      have e1 : pkM ⟨g, ordM g, x.s.to, x.n⟩ = pkR g (ordM g) x.s.to (nxM g (ordM g) x.s.to) := by rw [hn]; rfl
      have e2 : pkM ⟨g, ordM g, x.s.fr, x.n⟩ = pkR g (ordM g) x.s.fr (nxM g (ordM g) x.s.to) := by rw [hn]; rfl
      have hfr : x.s.fr <= x.s.to := xI.2.1
      have hbl : x.s.b.length <= x.s.fr := xI.2.2.2.1
      have hll : x.s.l.length = x.s.b.length := xI.2.2.2.2.1
      have hkl : x.s.k.length = x.s.b.length := xI.2.2.2.2.2.1
      refine ⟨⟨⟨⟨by omega, by omega, by rw [ord_len]; omega, by rw [ord_len]; omega⟩, λ _ h => ord_mem h⟩, pk_ok hc _ _⟩, λ hb1 => zz _ (F_bad xI x2 (by rw [<- e1]; exact hb1)), λ hb1 => ⟨⟨⟨⟨by omega, by omega, by rw [ord_len]; omega, by rw [ord_len]; omega⟩, λ _ h => ord_mem h⟩, pk_ok hc _ _⟩, λ hb2 => ?_, λ hb2 => ?_⟩⟩
      ·obtain ⟨f1, f2⟩ := F_go xI x2 (by rw [<- e1]; exact hb1) (by rw [<- e2]; exact hb2)
       exact ⟨goF g (ordM g) x.s, ⟨rfl, rfl, by show ((nxM g (ordM g) x.s.to : Nat) : Int) = x.n; rw [hn], rfl, rfl, by rw [e2]; rfl, by rw [e2]; rfl, by rw [e2]; rfl, by rw [e2]; rfl, rfl, λ _ _ => rfl, rfl, λ _ _ => ⟨rfl, rfl, rfl, rfl⟩, rfl, λ _ _ => ⟨rfl, λ _ _ => rfl⟩⟩, f1, by rw [<- x1]; exact f2⟩
      ·obtain ⟨f1, f2⟩ := F_brk xI x2 (by rw [<- e1]; exact hb1) (by rw [<- e2]; exact hb2)
       have eB : brkF g (ordM g) x.s = ⟨x.s.to, x.s.to, x.s.ln, x.s.b ++ [keyG g (gD (ordM g) x.s.to)], x.s.l ++ [x.s.ln], x.s.k ++ [kntM ⟨g, ((ordM g).take x.n).drop x.s.fr⟩]⟩ := by unfold brkF; rw [hn]
       rw [eB] at f1 f2
       rw [rng_seg (by rw [ord_len]; exact x4)]
       refine ⟨⟨⟨by omega, by rw [ord_len]; omega⟩, ord_gD x2, ⟨by omega, λ h => (by cases h), by omega⟩, by omega, λ h => (by cases h), by omega⟩, ⟨⟨⟨by omega, by omega, by rw [ord_len]; omega⟩, λ i hi => ?_, ⟨⟨by omega, by omega⟩, hck.2⟩, by omega, λ h => (by cases h), by omega⟩, ⟨x.s.to, x.s.to, x.s.ln, x.s.b ++ [keyG g (gD (ordM g) x.s.to)], x.s.l ++ [x.s.ln], x.s.k ++ [kntM ⟨g, ((ordM g).take x.n).drop x.s.fr⟩]⟩, ⟨by simp, rfl, by simp, by simp, rfl, rfl, rfl, rfl, by simp, snocI _ _, by simp, snocL _ _, by simp, λ i hi => ?_⟩, f1, rfl, by rw [<- x1]; exact f2⟩, λ y ⟨y1, y2, y3⟩ => ⟨y, ⟨rfl, by rw [y2], rfl, rfl, rfl, rfl, rfl, rfl, rfl, rfl, λ _ _ => rfl, rfl, λ _ _ => ⟨rfl, rfl, rfl, rfl⟩, rfl, λ _ _ => ⟨rfl, λ _ _ => rfl⟩⟩, y1, y3⟩⟩
       rw [gD_drop]; simp [gD, List.getD_eq_getElem?_getD, List.getElem?_take, show x.s.fr + i < x.n by omega]
       rw [gD_snoc _ _ (by simpa using hi)]
       cases decide (i < x.s.k.length) <;> exact ⟨rfl, λ _ _ => rfl⟩
   ·rw [ord_len] at ht
    rw [F_end hI ht]
    exact ⟨⟨by omega, λ h => (by cases h), by omega, by omega⟩, rfl, Nat.le_refl _, λ _ _ => rfl, by simp, by omega, snocL _ _, rfl, Nat.le_refl _, λ _ _ => ⟨rfl, λ _ _ => rfl⟩, rfl⟩
theorem ok_few : SpecOk Try.prog n_fewest (C_few.spec dGs1) := okC C_few A_few [] [301, 303, 29064] fn_fewest (λ _ => by kernel_rfl) (λ _ => gok_cons ok_Check (gok_cons ok_ss (gok_cons ok_level (gok_cons ok_pk (gok_cons ok_isKnot (gok_cons ok_line (gok_cons ok_kd gok_nil))))))) (λ (g : List Gau) h => p_few g (show g.length < 20 /\ True from h).1) (λ _ => noI rfl rfl) _
end Go.Bal
