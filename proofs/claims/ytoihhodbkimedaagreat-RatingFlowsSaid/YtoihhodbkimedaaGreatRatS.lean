/- Package rating: what ties; gaugings that are picked. -/
import Derived.Test.YtoihhodbkimedaaGreatRatR
set_option linter.unusedVariables false
set_option linter.unusedSimpArgs false
namespace Go.Bal
open Go Go.Sym Go.Proofs
def AFW (a : GK) : Bool := bif (JL a).2 then !(BG (JL a).1).2 else false
def dKt : List AVal -> Heap -> Option (GK × List (Nat × Nat) × List Nat)
 | [x, .bptr id _], H => match XT x H, H id with
  | some (m, e), .live (.box [.d (.list _ n h _)]) => some (⟨AE n λ i => TJ (h i), m⟩, [(100, id)], e)
  | _, _ => none
 | _, _ => none
def C_kt1 : Ctr := { ro := [100], α := GK, xs := λ a => [.d (BC a.k), .bptr 100 0], L := λ a => [(100, bxG a.g)], val := λ a => .bool (AFW a), keep := λ a => [(100, .live (bxG a.g))], pre := λ a => [(a.g.length < 1073741824 /\ a.k.length < 1073741824) /\ ∀ g ∈ a.g, DJ g] }
def COO : Ann := { ann 17 [(AIY, C_named.spec dGK), (Nw, C_isKnot.spec dGsK)] with E := [100] }
def COR (a : GK) : Prop := AN Try.prog COO bU (AF bU) (C_kt1.xs a) (AC (C_kt1.L a)) (C_kt1.val a) (C_kt1.keep a) [] []
theorem CSI (a : GK) : (COR a) = (((AE a.g.length λ (i : Nat) => gD a.g i).length = a.g.length /\ (∀ (i : Nat), i < (AE a.g.length λ (i : Nat) => gD a.g i).length -> (gD (AE a.g.length λ (i : Nat) => gD a.g
 i) i).st = (gD a.g i).st /\ (gD (AE a.g.length λ (i : Nat) => gD a.g i) i).lo = (gD a.g i).lo /\ (gD (AE a.g.length λ (i : Nat) => gD a.g i) i).hi = (gD a.g i).hi) /\ (AE a.k.length λ (i : Nat) => gD a.k i).length
 = a.k.length /\ (∀ (i : Nat), i < (AE a.k.length λ (i : Nat) => gD a.k i).length -> gD (AE a.k.length λ (i : Nat) => gD a.k i) i = gD a.k i) /\ (AE a.g.length λ (i : Nat) => gD a.g i).length < 1073741824 /\ (AE
 a.k.length λ (i : Nat) => gD a.k i).length < 1073741824) /\ ((JL (GK.mk (AE a.g.length λ (i : Nat) => gD a.g i) (AE a.k.length λ (i : Nat) => gD a.k i))).snd = true -> (AE (JL (GK.mk (AE a.g.length λ (i :
 Nat) => gD a.g i) (AE a.k.length λ (i : Nat) => gD a.k i))).fst.length λ (i : Nat) => gD (JL (GK.mk (AE a.g.length λ (i : Nat) => gD a.g i) (AE a.k.length λ (i : Nat) => gD a.k i))).fst i).length = (JL
 (GK.mk (AE a.g.length λ (i : Nat) => gD a.g i) (AE a.k.length λ (i : Nat) => gD a.k i))).fst.length /\ (∀ (i : Nat), i < (AE (JL (GK.mk (AE a.g.length λ (i : Nat) => gD a.g i) (AE a.k.length λ (i : Nat) =>
 gD a.k i))).fst.length λ (i : Nat) => gD (JL (GK.mk (AE a.g.length λ (i : Nat) => gD a.g i) (AE a.k.length λ (i : Nat) => gD a.k i))).fst i).length -> (gD (AE (JL (GK.mk (AE a.g.length λ (i : Nat) => gD a.g
 i) (AE a.k.length λ (i : Nat) => gD a.k i))).fst.length λ (i : Nat) => gD (JL (GK.mk (AE a.g.length λ (i : Nat) => gD a.g i) (AE a.k.length λ (i : Nat) => gD a.k i))).fst i) i).st = (gD (JL (GK.mk (AE
 a.g.length λ (i : Nat) => gD a.g i) (AE a.k.length λ (i : Nat) => gD a.k i))).fst i).st /\ (gD (AE (JL (GK.mk (AE a.g.length λ (i : Nat) => gD a.g i) (AE a.k.length λ (i : Nat) => gD a.k i))).fst.length fun
 (i : Nat) => gD (JL (GK.mk (AE a.g.length λ (i : Nat) => gD a.g i) (AE a.k.length λ (i : Nat) => gD a.k i))).fst i) i).lo = (gD (JL (GK.mk (AE a.g.length λ (i : Nat) => gD a.g i) (AE a.k.length λ (i : Nat)
 => gD a.k i))).fst i).lo /\ (gD (AE (JL (GK.mk (AE a.g.length λ (i : Nat) => gD a.g i) (AE a.k.length λ (i : Nat) => gD a.k i))).fst.length λ (i : Nat) => gD (JL (GK.mk (AE a.g.length λ (i : Nat) => gD a.g
 i) (AE a.k.length λ (i : Nat) => gD a.k i))).fst i) i).hi = (gD (JL (GK.mk (AE a.g.length λ (i : Nat) => gD a.g i) (AE a.k.length λ (i : Nat) => gD a.k i))).fst i).hi) /\ (AE (JL (GK.mk (AE a.g.length λ (i
 : Nat) => gD a.g i) (AE a.k.length λ (i : Nat) => gD a.k i))).fst.length λ (i : Nat) => gD (JL (GK.mk (AE a.g.length λ (i : Nat) => gD a.g i) (AE a.k.length λ (i : Nat) => gD a.k i))).fst i).length <
 1073741824 /\ ∀ (g : Gau), List.Mem g (AE (JL (GK.mk (AE a.g.length λ (i : Nat) => gD a.g i) (AE a.k.length λ (i : Nat) => gD a.k i))).fst.length λ (i : Nat) => gD (JL (GK.mk (AE a.g.length λ (i : Nat) => gD
 a.g i) (AE a.k.length λ (i : Nat) => gD a.k i))).fst i) -> 0 <= g.st /\ g.st <= 2000 /\ 0 <= g.lo /\ g.lo <= g.hi /\ g.hi <= 200000) /\ (AFW a = bif (JL (GK.mk (AE a.g.length λ (i : Nat) => gD a.g i) (AE a.k.length λ (i
 : Nat) => gD a.k i))).snd then !(BG (AE (JL (GK.mk (AE a.g.length λ (i : Nat) => gD a.g i) (AE a.k.length λ (i : Nat) => gD a.k i))).fst.length λ (i : Nat) => gD (JL (GK.mk (AE a.g.length λ (i : Nat) =>
 gD a.g i) (AE a.k.length λ (i : Nat) => gD a.k i))).fst i)).snd else false) /\ a.g.length = a.g.length /\ ∀ (i : Nat), i < a.g.length -> (gD a.g i).st = (gD a.g i).st /\ (gD a.g i).lo = (gD a.g i).lo /\ (gD a.g i).hi = (gD
 a.g i).hi) := by kernel_rfl
def knt3 (g : List Gau) (a b : Int) : List Int -> Option (List Int)
 | [] => none
 | c :: cs => bif AFW ⟨g, [a, b, c]⟩ then some [a, b, c] else knt3 g a b cs
def orO (x y : Option (List Int)) : Option (List Int) := match x with
 | some z => some z
 | none => y
def knt2 (g : List Gau) (a : Int) : List Int -> Option (List Int)
 | [] => none
 | b :: cs => bif AFW ⟨g, [a, b]⟩ then some [a, b] else orO (knt3 g a b cs) (knt2 g a cs)
def Yj (g : List Gau) : List Int -> Option (List Int)
 | [] => none
 | a :: bs => orO (knt2 g a bs) (Yj g bs)
def WF (a : GK) : List Int := (Yj a.g a.k).getD []
structure IJK where
 i : Nat
 j : Nat
 k : Nat
 deriving Inhabited
structure IJ2 where
 i : Nat
 j : Nat
 deriving Inhabited
def kdS (a : GK) (i : Nat) : List (Nat × AVal) := [(1, .d (BC a.k)), (5, .fn (.func Hn) [] [.bptr 1000 0]), (13, .d (BC a.k)), (14, .int a.k.length), (15, .int i)]
def kdT (a : GK) (i j : Nat) : List (Nat × AVal) := kdS a i ++ [(6, .int i), (7, .int (gD a.k i)), (23, .d (BC (a.k.drop (i + 1)))), (24, .int (a.k.drop (i + 1)).length), (25, .int j)]
def kdH (a : GK) : List (Nat × HCell) := [(1000, .live (bxG a.g))]
def kd3 (a : GK) : Shape := { α := Nat, dflt := 0, T := λ i => ⟨kdS a i, kdH a⟩, inv := λ i => i <= a.k.length /\ Yj a.g a.k = Yj a.g (a.k.drop i), meas := λ i => a.k.length - i }
def kd6 (a : GK) (m : Nat) : Shape := { α := IJ2, dflt := default, T := λ x => ⟨kdT a x.i x.j, kdH a⟩, inv := λ x => a.k.length - x.i = m /\ x.i < a.k.length /\ x.j <= (a.k.drop (x.i + 1)).length /\ Yj a.g a.k = orO (knt2 a.g (gD a.k x.i) ((a.k.drop (x.i + 1)).drop x.j)) (Yj a.g (a.k.drop (x.i + 1))), meas := λ x => (a.k.drop (x.i + 1)).length - x.j }
def kd11 (a : GK) (m q : Nat) : Shape := { α := IJK, dflt := default, T := λ x => ⟨kdT a x.i x.j ++ [(9, .int (gD (a.k.drop (x.i + 1)) x.j)), (43, .d (BC (a.k.drop (x.i + x.j + 2)))), (44, .int (a.k.drop (x.i + x.j + 2)).length), (45, .int x.k)], kdH a⟩, inv := λ x => a.k.length - x.i = m /\ x.i < a.k.length /\ (a.k.drop (x.i + 1)).length - x.j = q /\ x.j < (a.k.drop (x.i + 1)).length /\ x.k <= (a.k.drop (x.i + x.j + 2)).length /\ Yj a.g a.k = orO (orO (knt3 a.g (gD a.k x.i) (gD (a.k.drop (x.i + 1)) x.j) ((a.k.drop (x.i + x.j + 2)).drop x.k)) (knt2 a.g (gD a.k x.i) (a.k.drop (x.i + x.j + 2)))) (Yj a.g (a.k.drop (x.i + 1))), meas := λ x => (a.k.drop (x.i + x.j + 2)).length - x.k }
def C_kd : Ctr := { α := GK, xs := xGK, L := λ _ => [], val := λ a => .d (BC (WF a)), keep := λ _ => [], pre := λ a => [(a.g.length < 1073741824 /\ a.k.length < 1073741824) /\ ∀ g ∈ a.g, DJ g] }
def A_kd (a : GK) : Ann := { ann 62 [(Hn, C_kt1.spec dKt)] with md := λ id => if id = 8 then some (λ k => if k = 3 then 4 else 0) else if id = 9 then some (λ k => if k = 2 then 4 else 0) else if id = 13 then some (λ k => if k = 4 then 4 else 0) else if id = 14 then some (λ k => if k = 3 then 4 else 0) else none, loops := λ id => if id = 3 then some [kd3 a] else none, inner := λ gs id => if id = 6 then some [kd6 a (gs.getD 0 0)] else if id = 11 then some [kd11 a (gs.getD 1 0) (gs.getD 0 0)] else none }
def V_kd (a : GK) : Prop := AN Try.prog (A_kd a) AEW (AF AEW) (xGK a) (AC []) (C_kd.val a) [] [] []
abbrev MT (a : GK) : Prop := a.k.length = a.k.length
abbrev MP (a : GK) : Prop := ∀ (i : Nat), i < a.k.length -> gD a.k i = gD a.k i
abbrev eC (a : GK) : Prop := (↑a.k.length : Int) = (↑a.k.length : Int)
abbrev cI (a : GK) : Prop := a.g.length = a.g.length /\ ∀ (i : Nat), i < a.g.length -> (gD a.g i).st = (gD a.g i).st /\ (gD a.g i).lo = (gD a.g i).lo /\ (gD a.g i).hi = (gD a.g i).hi
abbrev BJI (a : Nat) (a1 : GK) : Prop := a <= a1.k.length /\ Yj a1.g a1.k = Yj a1.g (List.drop a a1.k)
abbrev BQB (a : Nat) (a1 : GK) : Prop := (↑a : Int) < (↑a1.k.length : Int)
abbrev BFU (a : Nat) : Int := IntKind.i64.wrap ((↑a : Int) + 1)
abbrev BOO (a : GK) : Prop := (↑a.k.length : Int) <= (↑a.k.length : Int)
abbrev BOT (a : IJ2) (a1 : Nat) : Prop := (↑a.i : Int) = (↑a1 : Int)
abbrev ACF (a : IJ2) (a1 : GK) : List Int := List.drop (a.i + 1) a1.k
abbrev LM (a : IJ2) (a1 : GK) : Nat := (ACF a a1).length
abbrev BGM (a : Nat) : Nat := (BFU a).toNat
abbrev BKK (a : GK) (a1 : Nat) : Nat := a.k.length - BGM a1
abbrev BJJ (i : Nat) (a : IJ2) (a1 : GK) : Prop := i < LM a a1
abbrev AGI (a : IJ2) (a1 : GK) (i : Nat) : Int := gD (ACF a a1) i
abbrev sZ (a : GK) (a1 : Nat) : Nat := a.k.length - a1
abbrev AIK (a : GK) (a1 : IJ2) (a2 : Nat) : Prop := a.k.length - a1.i = sZ a a2 /\ a1.i < a.k.length /\ a1.j <= LM a1 a /\ Yj a.g a.k = orO (knt2 a.g (gD a.k a1.i) (List.drop a1.j (ACF a1 a))) (Yj a.g
 (ACF a1 a))
abbrev BGP (a : IJ2) (a1 : GK) : Prop := (↑a.j : Int) < (↑(LM a a1) : Int)
abbrev BDL (i : Nat) : Bool := decide (i = 0)
abbrev BDS (a : IJ2) (a1 : GK) : Int := gD (ACF a a1) a.j
abbrev AGW (i : Nat) (a : GK) (a1 : IJ2) : Int := bif BDL i then gD a.k a1.i else BDS a1 a
abbrev AHR (a : GK) (a1 : IJ2) : List Int := AE 2 λ (i : Nat) => AGW i a a1
abbrev AIZ (a : GK) (a1 : IJ2) : Nat := (AHR a a1).length
abbrev Sg (a : GK) : List Gau := AE a.g.length λ (i : Nat) => gD a.g i
abbrev uX (a : GK) : Nat := (Sg a).length
abbrev BEY (a : GK) : Prop := uX a = a.g.length
abbrev AJW (a : GK) (i : Nat) : Gau := gD (Sg a) i
abbrev BKF (a : GK) (i : Nat) : Int := (AJW a i).st
abbrev BFD (a : GK) (i : Nat) : Int := (AJW a i).lo
abbrev BGZ (a : GK) (i : Nat) : Int := (AJW a i).hi
abbrev BHH (a : GK) : Prop := ∀ (i : Nat), i < uX a -> BKF a i = (gD a.g i).st /\ BFD a i = (gD a.g i).lo /\ BGZ a i = (gD a.g i).hi
abbrev BIV (a : GK) : Prop := a.g.length = uX a
abbrev BEZ (a : GK) : Prop := ∀ (i : Nat), i < a.g.length -> (gD a.g i).st = BKF a i /\ (gD a.g i).lo = BFD a i /\ (gD a.g i).hi = BGZ a i
abbrev BKL (a : GK) : Prop := uX a < 1073741824
abbrev BCU (a : GK) : Prop := ∀ (g : Gau), List.Mem g (Sg a) -> 0 <= g.st /\ g.st <= 2000 /\ 0 <= g.lo /\ g.lo <= g.hi /\ g.hi <= 200000
abbrev AHS (a : IJ2) : Int := IntKind.i64.wrap (IntKind.i64.wrap ((↑a.i : Int) + (↑a.j : Int)) + 2)
abbrev BFY (a : IJK) (a1 : IJ2) : Prop := (↑a.i : Int) = (↑a1.i : Int)
abbrev qI (a : IJK) (a1 : GK) : List Int := List.drop (a.i + 1) a1.k
abbrev JW (a : IJK) (a1 : GK) : Nat := (qI a a1).length
abbrev BEV (i : Nat) (a : IJK) (a1 : GK) : Prop := i < JW a a1
abbrev oV (a : IJK) (a1 : GK) (i : Nat) : Int := gD (qI a a1) i
abbrev Sq (a : IJK) (a1 : GK) : Int := gD (qI a a1) a.j
abbrev Wq (a : IJK) (a1 : GK) : List Int := List.drop (a.i + a.j + 2) a1.k
abbrev LN (a : IJK) (a1 : GK) : Nat := (Wq a a1).length
abbrev BIG (a : IJ2) : Nat := (AHS a).toNat
abbrev BIJ (a : GK) (a1 : IJ2) : Nat := a.k.length - BIG a1
abbrev BFH (i : Nat) (a : IJK) (a1 : GK) : Prop := i < LN a a1
abbrev AHN (a : IJK) (a1 : GK) (i : Nat) : Int := gD (Wq a a1) i
abbrev AJO (a : IJ2) (a1 : GK) : Nat := LM a a1 - a.j
abbrev AGL (a : GK) (a1 : IJK) (a2 : Nat) (a3 : IJ2) : Prop := a.k.length - a1.i = sZ a a2 /\ a1.i < a.k.length /\ JW a1 a - a1.j = AJO a3 a /\ a1.j < JW a1 a /\ a1.k <= LN a1 a /\ Yj a.g a.k =
 orO (orO (knt3 a.g (gD a.k a1.i) (Sq a1 a) (List.drop a1.k (Wq a1 a))) (knt2 a.g (gD a.k a1.i) (Wq a1 a))) (Yj a.g (qI a1 a))
abbrev BGV (a : IJK) (a1 : GK) : Prop := (↑a.k : Int) < (↑(LN a a1) : Int)
abbrev AJC (i : Nat) (a : GK) (a1 : IJK) : Int := bif BDL i then gD a.k a1.i else bif decide (i - 1 = 0) then Sq a1 a else gD (Wq a1 a) a1.k
abbrev AJX (a : GK) (a1 : IJK) : List Int := AE 3 λ (i : Nat) => AJC i a a1
abbrev AHI (a : GK) (a1 : IJK) : Nat := (AJX a a1).length
abbrev BKX (a : IJK) (a1 : IJK) : Prop := (↑a.i : Int) = (↑a1.i : Int)
abbrev BFV (a : IJK) (a1 : GK) : Nat := LN a a1 - a.k
abbrev BKE (a : IJ2) (a1 : IJK) : Prop := (↑a.i : Int) = (↑a1.i : Int)
abbrev BHT (a : GK) : Prop := (WF a).length = 0
theorem CUY (a : GK) : (V_kd a) = ((∃ (a_1 : Nat), (MT a /\ MP a /\ MT a /\ MP a /\ eC a /\ (↑a_1 : Int) = 0 /\ cI a) /\ BJI a_1 a) /\ ∀ (a_1 : Nat), BJI a_1 a -> bif decide (BQB a_1 a) then (0
 <= (↑a_1 : Int) /\ BQB a_1 a) /\ (0 <= BFU a_1 /\ BFU a_1 <= (↑a.k.length : Int) /\ BOO a) /\ (∃ (a_3 : IJ2), (MT a /\ MP a /\ MT a /\ MP a /\ eC a /\ BOT a_3 a_1 /\ BOT a_3 a_1 /\ gD a.k a_3.i =
 gD a.k a_1 /\ LM a_3 a = BKK a a_1 /\ (∀ (i : Nat), BJJ i a_3 a -> AGI a_3 a i = gD a.k (BGM a_1 + i)) /\ (↑(LM a_3 a) : Int) = (↑(BKK a a_1) : Int) /\ (↑a_3.j : Int) = 0 /\ cI a) /\ AIK a
 a_3 a_1) /\ ∀ (a_3 : IJ2), AIK a a_3 a_1 -> bif decide (BGP a_3 a) then (0 <= (↑a_3.j : Int) /\ BGP a_3 a) /\ (AIZ a a_3 = 2 /\ (∀ (i : Nat), i < AIZ a a_3 -> gD (AHR a a_3) i = AGW i a a_3) /\
 BEY a /\ BHH a /\ BIV a /\ BEZ a /\ (BKL a /\ AIZ a a_3 < 1073741824) /\ BCU a) /\ bif AFW (GK.mk (Sg a) (AHR a a_3)) then (WF a).length = 2 /\ ∀ (i : Nat), i < (WF a).length -> gD (WF
 a) i = AGW i a a_3 else (0 <= AHS a_3 /\ AHS a_3 <= (↑a.k.length : Int) /\ BOO a) /\ (∃ (a_5 : IJK), (MT a /\ MP a /\ MT a /\ MP a /\ eC a /\ BFY a_5 a_3 /\ BFY a_5 a_3 /\ gD a.k a_5.i = gD
 a.k a_3.i /\ JW a_5 a = LM a_3 a /\ (∀ (i : Nat), BEV i a_5 a -> oV a_5 a i = AGI a_3 a i) /\ (↑(JW a_5 a) : Int) = (↑(LM a_3 a) : Int) /\ (↑a_5.j : Int) = (↑a_3.j : Int) /\ Sq a_5 a =
 BDS a_3 a /\ LN a_5 a = BIJ a a_3 /\ (∀ (i : Nat), BFH i a_5 a -> AHN a_5 a i = gD a.k (BIG a_3 + i)) /\ (↑(LN a_5 a) : Int) = (↑(BIJ a a_3) : Int) /\ (↑a_5.k : Int) = 0 /\ cI a) /\ AGL
 a a_5 a_1 a_3) /\ ∀ (a_5 : IJK), AGL a a_5 a_1 a_3 -> bif decide (BGV a_5 a) then (0 <= (↑a_5.k : Int) /\ BGV a_5 a) /\ (AHI a a_5 = 3 /\ (∀ (i : Nat), i < AHI a a_5 -> gD (AJX a a_5) i = AJC i a
 a_5) /\ BEY a /\ BHH a /\ BIV a /\ BEZ a /\ (BKL a /\ AHI a a_5 < 1073741824) /\ BCU a) /\ bif AFW (GK.mk (Sg a) (AJX a a_5)) then (WF a).length = 3 /\ ∀ (i : Nat), i < (WF a).length ->
 gD (WF a) i = AJC i a a_5 else ∃ (a_7 : IJK), (MT a /\ MP a /\ MT a /\ MP a /\ eC a /\ BKX a_7 a_5 /\ BKX a_7 a_5 /\ gD a.k a_7.i = gD a.k a_5.i /\ JW a_7 a = JW a_5 a /\ (∀ (i : Nat),
 BEV i a_7 a -> oV a_7 a i = oV a_5 a i) /\ (↑(JW a_7 a) : Int) = (↑(JW a_5 a) : Int) /\ (↑a_7.j : Int) = (↑a_5.j : Int) /\ Sq a_7 a = Sq a_5 a /\ LN a_7 a = LN a_5 a /\ (∀ (i : Nat),
 BFH i a_7 a -> AHN a_7 a i = AHN a_5 a i) /\ (↑(LN a_7 a) : Int) = (↑(LN a_5 a) : Int) /\ (↑a_7.k : Int) = IntKind.i64.wrap ((↑a_5.k : Int) + 1) /\ cI a) /\ AGL a a_7 a_1 a_3 /\ BFV a_7 a <
 BFV a_5 a else ∃ (a_7 : IJ2), (MT a /\ MP a /\ MT a /\ MP a /\ eC a /\ BKE a_7 a_5 /\ BKE a_7 a_5 /\ gD a.k a_7.i = gD a.k a_5.i /\ LM a_7 a = JW a_5 a /\ (∀ (i : Nat), BJJ i a_7 a ->
 AGI a_7 a i = oV a_5 a i) /\ (↑(LM a_7 a) : Int) = (↑(JW a_5 a) : Int) /\ (↑a_7.j : Int) = IntKind.i64.wrap ((↑a_5.j : Int) + 1) /\ cI a) /\ AIK a a_7 a_1 /\ AJO a_7 a < AJO a_3 a else ∃
 (a_5 : Nat), (MT a /\ MP a /\ MT a /\ MP a /\ eC a /\ (↑a_5 : Int) = IntKind.i64.wrap ((↑a_3.i : Int) + 1) /\ cI a) /\ BJI a_5 a /\ sZ a a_5 < sZ a a_1 else BHT a /\ BHT a) := by
 kernel_rfl
structure GPk where
 g : List Gau
 o : List Int
 a : Int
 b : Int
def dGPk : List AVal -> Heap -> Option (GPk × List (Nat × Nat) × List Nat)
 | [.d x, .d y, .bptr c _, .bptr id _], H => match H id, H c with
  | .live (.box [.d (.list _ n h _)]), .live (.box [.d (.list _ m r _)]) => some (⟨AE n λ i => TJ (h i), AE m λ i => DH (r i), DH x, DH y⟩, [(100, id), (101, c)], [])
  | _, _ => none
 | _, _ => none
def QI (a : GPk) : List Int := (a.o.take a.b.toNat).drop a.a.toNat
def pkM (a : GPk) : List Gau := (QI a).map λ i => gD a.g i.toNat
def pkH (a : GPk) : List (Nat × HCell) := [(101, .live (.box [.d (BC a.o)])), (100, .live (bxG a.g))]
def pk3n (a : GPk) : Shape := { α := One, dflt := default, T := λ _ => ⟨[(3, .bptr 100 0), (7, .d Hr), (13, .d (BC (QI a))), (14, .int (QI a).length), (15, .int 0)], pkH a⟩, inv := λ _ => True, meas := λ _ => (QI a).length + 1 }
def pk3o (a : GPk) : Shape := { α := GsK, dflt := default, T := λ x => ⟨[(3, .bptr 100 0), (7, .own 201 3 0 x.l.length), (13, .d (BC (QI a))), (14, .int (QI a).length), (15, .int x.i)], pkH a ++ [(201, .live (rowG x.l))]⟩, inv := λ x => 1 <= x.i /\ x.i <= (QI a).length /\ x.l = ((QI a).take x.i).map λ i => gD a.g i.toNat, meas := λ x => (QI a).length - x.i, again := [(201, 6096)] }
def C_pk : Ctr := { ro := [100, 101], α := GPk, xs := λ a => [.int a.a, .int a.b, .bptr 101 0, .bptr 100 0], L := λ a => [(101, .box [.d (BC a.o)]), (100, bxG a.g)], val := λ a => .d (AS (pkM a)), keep := pkH, pre := λ a => [(0 <= a.a /\ a.a <= a.b /\ a.b <= a.o.length /\ a.o.length < 1073741824) /\ ∀ x ∈ a.o, 0 <= x /\ x < a.g.length] }
def A_pk (a : GPk) : Ann := { ann 28 [] with E := [101, 100], mt := λ id => id == 5, loops := λ id => if id = 3 then some [pk3n a, pk3o a] else none }
def V_pk (a : GPk) : Prop := AN Try.prog (A_pk a) yK (AF yK) (C_pk.xs a) (AC (C_pk.L a)) (C_pk.val a) (C_pk.keep a) [] [201]
abbrev BJW : Prop := (0 : Nat) = (0 : Nat)
abbrev BRF (a : GPk) : Nat := a.b.toNat - a.a.toNat
abbrev BED (a : GPk) : Prop := a.o.length = a.o.length
abbrev BDJ (a : GPk) : Prop := ∀ (i : Nat), i < a.o.length -> gD a.o i = gD a.o i
abbrev BKO (a : GPk) : Prop := a.g.length = a.g.length
abbrev BJP (a : GPk) : Prop := ∀ (i : Nat), i < a.g.length -> (gD a.g i).st = (gD a.g i).st /\ (gD a.g i).lo = (gD a.g i).lo /\ (gD a.g i).hi = (gD a.g i).hi
abbrev BEU (a : GPk) : Prop := BED a /\ BDJ a /\ BKO a /\ BJP a
abbrev BPW (a : GPk) : Prop := (0 : Int) < (↑(QI a).length : Int)
abbrev BON (a : GPk) : Int := gD (QI a) (0 : Nat)
abbrev BEH : Prop := (0 : Nat) < (1 : Nat)
abbrev BHF : Prop := (3 : Nat) = (3 : Nat)
abbrev BEC : Prop := (1 : Nat) <= (1 : Nat) /\ (BEH -> BHF)
abbrev BGH (a : GsK) : Prop := a.l.length = (1 : Nat)
abbrev BIE (a : GPk) : Prop := (QI a).length = (QI a).length
abbrev BHY (a : GPk) : Prop := ∀ (i : Nat), i < (QI a).length -> gD (QI a) i = gD (QI a) i
abbrev BHE (a : GPk) : Prop := (↑(QI a).length : Int) = (↑(QI a).length : Int)
abbrev AHZ (a : GPk) : Gau := gD a.g (gD (QI a) (Int.toNat (0 : Int))).toNat
abbrev AIQ (a : GsK) (a1 : GPk) : Prop := (1 : Nat) <= a.i /\ a.i <= (QI a1).length /\ a.l = List.map (λ (i : Int) => gD a1.g i.toNat) (List.take a.i (QI a1))
abbrev AHX (a : GPk) (a1 : GsK) : Nat := (QI a).length - a1.i
abbrev BJA (a : GPk) : Prop := (pkM a).length = (0 : Nat)
abbrev BHI (a : GsK) (a1 : GPk) : Prop := (↑a.i : Int) < (↑(QI a1).length : Int)
abbrev AHB (a : GsK) : Nat := a.l.length + (1 : Nat)
abbrev BCW (a : GsK) (a1 : GsK) : Prop := a.l.length = AHB a1
abbrev AHY (i : Nat) (a : GsK) : Bool := decide (i < a.l.length)
abbrev AHJ (a : GPk) (a1 : GsK) : Gau := gD a.g (gD (QI a) a1.i).toNat
abbrev AJI (a : GsK) (j : Nat) : Gau := gD a.l ((0 : Nat) + j)
theorem CVZ (a : GPk) : (V_pk a) = (((0 : Int) <= a.a /\ a.a <= a.b /\ a.b <= (↑a.o.length : Int)) /\ (∃ (a_1 : One), (BJW /\ (∀ (i : Nat), i < (0 : Nat) -> false = false) /\ (QI a).length = BRF a /\ (∀ (i : Nat), i <
 (QI a).length -> gD (QI a) i = gD a.o (a.a.toNat + i)) /\ (↑(QI a).length : Int) = (↑(BRF a) : Int) /\ Int.ofNat (0 : Nat) = Int.ofNat (0 : Nat) /\ BEU a) /\ True) /\ (∀ (a_1 : One), True -> bif decide (BPW a) then
 ((0 : Int) <= (0 : Int) /\ BPW a) /\ (((0 : Int) <= BON a /\ BON a < (↑a.g.length : Int)) /\ (True /\ ((0 : Nat) < (0 : Nat) -> (0 : Nat) = (3 : Nat))) /\ BEC /\ (true = true -> BEH) /\ (1 : Nat) <=
 (9223372036854775807 : Nat) /\ (24 : Nat) <= (140737488355328 : Nat)) /\ ∃ (a_3 : GsK), (BJW /\ BGH a_3 /\ BIE a /\ BHY a /\ BHE a /\ (↑a_3.i : Int) = IntKind.i64.wrap ((0 : Int) + (1 : Int)) /\ BED a /\
 BDJ a /\ BKO a /\ BJP a /\ BGH a_3 /\ ∀ (i : Nat), i < a_3.l.length -> (gD a_3.l i).st = (AHZ a).st /\ (gD a_3.l i).lo = (AHZ a).lo /\ (gD a_3.l i).hi = (AHZ a).hi) /\ AIQ a_3 a /\ AHX a a_3 <
 (QI a).length + (1 : Nat) else BJA a /\ BJA a /\ BEU a) /\ ∀ (a_1 : GsK), AIQ a_1 a -> bif decide (BHI a_1 a) then ((0 : Int) <= (↑a_1.i : Int) /\ BHI a_1 a) /\ (((0 : Int) <= gD (QI a) a_1.i /\ gD (QI
 a) a_1.i < (↑a.g.length : Int)) /\ (a_1.l.length = a_1.l.length /\ ((0 : Nat) < a_1.l.length -> BHF)) /\ BEC /\ (false = true -> BEH) /\ AHB a_1 <= (9223372036854775807 : Nat) /\ AHB a_1 * (24 : Nat) <=
 (140737488355328 : Nat)) /\ ∃ (a_3 : GsK), (BJW /\ BCW a_3 a_1 /\ BIE a /\ BHY a /\ BHE a /\ (↑a_3.i : Int) = IntKind.i64.wrap ((↑a_1.i : Int) + (1 : Int)) /\ BED a /\ BDJ a /\ BKO a /\ BJP a /\
 BCW a_3 a_1 /\ ∀ (i : Nat), i < a_3.l.length -> ((gD a_3.l i).st = bif AHY i a_1 then (gD a_1.l i).st else (AHJ a a_1).st) /\ ((gD a_3.l i).lo = bif AHY i a_1 then (gD a_1.l i).lo else (AHJ a a_1).lo) /\
 (gD a_3.l i).hi = bif AHY i a_1 then (gD a_1.l i).hi else (AHJ a a_1).hi) /\ AIQ a_3 a /\ AHX a a_3 < AHX a a_1 else (pkM a).length = a_1.l.length /\ (0 : Nat) + a_1.l.length <= a_1.l.length /\ (∀ (j :
 Nat), j < (pkM a).length -> (gD (pkM a) j).st = (AJI a_1 j).st /\ (gD (pkM a) j).lo = (AJI a_1 j).lo /\ (gD (pkM a) j).hi = (AJI a_1 j).hi) /\ BEU a) := by kernel_rfl
theorem CTR : AG Try.prog Hn (C_kt1.spec dKt) := HR C_kt1 (λ _ => COO) [] [] BNX (λ _ => by kernel_rfl) (λ _ => AB BNQ (AB U1 AD)) (λ (a : GK) h => by
 show COR a; rw [CSI]; simp only [CC, eq_self, implies_true, forall_const]
 obtain ⟨⟨h1, h2⟩, h3⟩ : (a.g.length < 1073741824 /\ a.k.length < 1073741824) /\ ∀ g ∈ a.g, DJ g := h
 exact ⟨⟨h1, h2⟩, λ _ => CIR h3 h1, rfl⟩) (λ _ => IN rfl rfl) _
theorem APU {l : List Int} {i : Nat} (h : i < l.length) : l.drop i = gD l i :: l.drop (i + 1) := by
 rw [List.drop_eq_getElem_cons h]; simp [gD, List.getD_eq_getElem?_getD, h]
theorem QV (l : List Int) (i j : Nat) : gD (l.drop i) j = gD l (i + j) := by
 simp [gD, List.getD_eq_getElem?_getD]
theorem rng2 (a b : Int) : (AE 2 λ i => bif decide (i = 0) then a else b) = [a, b] := rfl
theorem rng3 (a b c : Int) : (AE 3 λ i => bif decide (i = 0) then a else bif decide (i - 1 = 0) then b else c) = [a, b, c] := rfl
theorem all2 (a b : Int) : ∀ i, i < 2 -> gD [a, b] i = bif decide (i = 0) then a else b := λ i hi => by
 match i, hi with
 | 0, _ => rfl
 | 1, _ => rfl
theorem all3 (a b c : Int) : ∀ i, i < 3 -> gD [a, b, c] i = bif decide (i = 0) then a else bif decide (i - 1 = 0) then b else c := λ i hi => by
 match i, hi with
 | 0, _ => rfl
 | 1, _ => rfl
 | 2, _ => rfl
theorem CSS (g : List Gau) (a : Int) (bs : List Int) : Yj g (a :: bs) = orO (knt2 g a bs) (Yj g bs) := rfl
theorem CRM (g : List Gau) (a b : Int) (cs : List Int) : knt2 g a (b :: cs) = bif AFW ⟨g, [a, b]⟩ then some [a, b] else orO (knt3 g a b cs) (knt2 g a cs) := rfl
theorem CSC (g : List Gau) (a b c : Int) (cs : List Int) : knt3 g a b (c :: cs) = bif AFW ⟨g, [a, b, c]⟩ then some [a, b, c] else knt3 g a b cs := rfl
theorem p_kd (a : GK) (h1 : a.g.length < 1073741824) (h2 : a.k.length < 1073741824) (h3 : ∀ g ∈ a.g, DJ g) : V_kd a := by
 rw [CUY]; delta MT MP eC cI BJI BQB BFU BOO BOT ACF LM BGM BKK BJJ AGI sZ AIK BGP BDL BDS AGW AHR AIZ Sg uX BEY AJW BKF BFD BGZ BHH BIV BEZ BKL BCU AHS BFY qI JW BEV oV Sq Wq LN BIG BIJ BFH AHN AJO AGL BGV AJC AJX AHI BKX BFV BKE BHT; simp only [CC, eq_self, implies_true, forall_const, List.length_drop, rng2, rng3]
 refine ⟨⟨0, rfl, Nat.zero_le _, rfl⟩, λ i ⟨hi, hI⟩ => ⟨λ hlt => ?_, λ hge => ?_⟩⟩
 ·have hlt : i < a.k.length := Int.ofNat_lt.1 hlt
  rw [BF (by omega)]
  simp only [Int.toNat_natCast]
  rw [APU hlt, CSS] at hI
  refine ⟨⟨by omega, by omega⟩, ⟨by omega, by omega, Int.le_refl _⟩, ⟨⟨i, 0⟩, ⟨rfl, rfl, rfl, rfl, λ j hj => QV _ _ _, rfl, rfl⟩, rfl, hlt, Nat.zero_le _, hI⟩, λ x ⟨x1, x2, x3, x4⟩ => ⟨λ hj => ?_, λ hj => ?_⟩⟩
  ·have hj : x.j < a.k.length - (x.i + 1) := Int.ofNat_lt.1 hj
   have hxi : x.i = i := by omega
   have e : (IntKind.i64.wrap (IntKind.i64.wrap ((x.i : Int) + x.j) + 2)) = ((x.i + x.j + 2 : Nat) : Int) := by
    rw [EV (n := (x.i : Int) + x.j) (by omega) (by omega), EV (by omega) (by omega)]; omega
   rw [APU (l := a.k.drop (x.i + 1)) (by rw [List.length_drop]; omega), List.drop_drop, show x.i + 1 + (x.j + 1) = x.i + x.j + 2 by omega, CRM] at x4
   refine ⟨⟨by omega, by omega⟩, ⟨rfl, all2 _ _, ⟨h1, by show 2 < 1073741824; omega⟩, h3⟩, λ ht => ?_, λ ht => ?_⟩
   ·rw [ht] at x4
    have ek : WF a = [gD a.k x.i, gD (a.k.drop (x.i + 1)) x.j] := by unfold WF; rw [x4]; rfl
    rw [ek]; exact ⟨rfl, all2 _ _⟩
   ·rw [ht] at x4
    rw [e]; simp only [Int.toNat_natCast]
    refine ⟨⟨by omega, by omega, Int.le_refl _⟩, ⟨⟨x.i, x.j, 0⟩, ⟨rfl, rfl, rfl, rfl, λ _ _ => rfl, rfl, rfl, rfl, rfl, λ j hj => QV _ _ _, rfl, rfl⟩, x1, x2, rfl, hj, Nat.zero_le _, x4⟩, λ y ⟨y1, y2, y3, y4, y5, y6⟩ => ⟨λ hk => ?_, λ hk => ?_⟩⟩
    ·have hk : y.k < a.k.length - (y.i + y.j + 2) := Int.ofNat_lt.1 hk
     rw [APU (l := a.k.drop (y.i + y.j + 2)) (by rw [List.length_drop]; omega), CSC] at y6
     refine ⟨⟨by omega, by omega⟩, ⟨rfl, all3 _ _ _, ⟨h1, by show 3 < 1073741824; omega⟩, h3⟩, λ ht => ?_, λ ht => ?_⟩
     ·rw [ht] at y6
      have ek : WF a = [gD a.k y.i, gD (a.k.drop (y.i + 1)) y.j, gD (a.k.drop (y.i + y.j + 2)) y.k] := by unfold WF; rw [y6]; rfl
      rw [ek]; exact ⟨rfl, all3 _ _ _⟩
     ·rw [ht] at y6
      exact ⟨⟨y.i, y.j, y.k + 1⟩, ⟨rfl, rfl, rfl, rfl, λ _ _ => rfl, rfl, rfl, rfl, rfl, λ _ _ => rfl, rfl, (BF (by omega)).symm⟩, ⟨y1, y2, y3, y4, by show y.k + 1 <= a.k.length - (y.i + y.j + 2); omega, y6⟩, by show a.k.length - (y.i + y.j + 2) - (y.k + 1) < _; omega⟩
    ·have hk : a.k.length - (y.i + y.j + 2) <= y.k := by omega
     rw [List.drop_of_length_le (l := a.k.drop (y.i + y.j + 2)) (by rw [List.length_drop]; omega)] at y6
     refine ⟨⟨y.i, y.j + 1⟩, ⟨rfl, rfl, rfl, rfl, λ _ _ => rfl, rfl, (BF (by omega)).symm⟩, ⟨y1, y2, by show y.j + 1 <= a.k.length - (y.i + 1); omega, ?_⟩, by show a.k.length - (y.i + 1) - (y.j + 1) < _; omega⟩
     show _ = orO (knt2 a.g (gD a.k y.i) ((a.k.drop (y.i + 1)).drop (y.j + 1))) _
     rw [List.drop_drop, show y.i + 1 + (y.j + 1) = y.i + y.j + 2 by omega]; exact y6
  ·have hj : a.k.length - (x.i + 1) <= x.j := by omega
   rw [List.drop_of_length_le (l := a.k.drop (x.i + 1)) (by rw [List.length_drop]; omega)] at x4
   exact ⟨x.i + 1, (BF (by omega)).symm, ⟨by omega, x4⟩, by omega⟩
 ·rw [List.drop_of_length_le (by omega)] at hI
  have ek : WF a = [] := by unfold WF; rw [hI]; rfl
  rw [ek]; rfl
theorem CWM : AG Try.prog ACM (C_kd.spec dGK) := HR C_kd A_kd [] [] BPN (λ _ => by kernel_rfl) (λ _ => AB CTR AD) (λ (a : GK) h => by
 obtain ⟨⟨h1, h2⟩, h3⟩ : (a.g.length < 1073741824 /\ a.k.length < 1073741824) /\ ∀ g ∈ a.g, DJ g := h
 exact p_kd a h1 h2 h3) (λ _ => IN rfl rfl) _
theorem CLE {a : GPk} (h : 0 <= a.a /\ a.a <= a.b /\ a.b <= a.o.length) : (QI a).length = a.b.toNat - a.a.toNat := by
 unfold QI; rw [List.length_drop, List.length_take]; omega
theorem CSO {a : GPk} {i : Nat} (h : i < (QI a).length) : gD (QI a) i = gD a.o (a.a.toNat + i) := by
 unfold QI at *
 rw [QV]
 rw [List.length_drop, List.length_take] at h
 simp [gD, List.getD_eq_getElem?_getD, List.getElem?_take, show a.a.toNat + i < a.b.toNat by omega]
theorem BXK {a : GPk} {x : Int} (h : x ∈ QI a) : x ∈ a.o := List.mem_of_mem_take (List.mem_of_mem_drop h)
theorem p_pk (a : GPk) (h : 0 <= a.a /\ a.a <= a.b /\ a.b <= a.o.length /\ a.o.length < 1073741824) (hx : ∀ x ∈ a.o, 0 <= x /\ x < a.g.length) : V_pk a := by
 rw [CVZ]; delta BJW BRF BED BDJ BKO BJP BEU BPW BON BEH BHF BEC BGH BIE BHY BHE AHZ AIQ AHX BJA BHI AHB BCW AHY AHJ AJI; simp only [CC, eq_self, implies_true, forall_const]
 have hl := CLE ⟨h.1, h.2.1, h.2.2.1⟩
 have hk : ∀ {i : Nat}, i < (QI a).length -> 0 <= gD (QI a) i /\ gD (QI a) i < a.g.length := λ hi => hx _ (BXK (BM hi))
 have hm : ∀ i, (((QI a).take i).map λ i => gD a.g i.toNat).length <= (QI a).length := λ i => by simp; omega
 refine ⟨⟨h.1, h.2.1, h.2.2.1⟩, ⟨default, hl, λ i hi => CSO hi, by rw [hl]⟩, ⟨λ hlt => ⟨⟨by omega, by omega⟩, ⟨hk (by omega), by omega, by omega, by omega, by omega, by omega⟩, ⟨1, [gD a.g (gD (QI a) 0).toNat]⟩, ⟨rfl, rfl, rfl, λ i hi => ?_⟩, ⟨by show 0 < 1; omega, by show 1 <= _; omega, ?_⟩, by show (QI a).length - 1 < _; omega⟩, λ hge => ?_⟩, λ x ⟨x1, x2, x3⟩ => ⟨λ hlt => ⟨⟨by omega, by omega⟩, ⟨hk (by omega), by omega, λ h => (by cases h), ?_, ?_⟩, ⟨x.i + 1, x.l ++ [gD a.g (gD (QI a) x.i).toNat]⟩, ⟨by simp, (BF (by omega)).symm, by simp, BTF _ _⟩, ⟨by show 0 < x.i + 1; omega, by show x.i + 1 <= _; omega, ?_⟩, by show (QI a).length - (x.i + 1) < _; omega⟩, λ hge => ?_⟩⟩
 ·have hi : i < 1 := hi
  rw [show i = 0 by omega]; exact ⟨rfl, rfl, rfl⟩
 ·show [gD a.g (gD (QI a) 0).toNat] = ((QI a).take 1).map _
  rw [DF (by omega : 0 < (QI a).length)]; rfl
 ·unfold pkM; rw [List.length_map]; omega
 ·have := hm x.i; rw [<- x3] at this; omega
 ·have := hm x.i; rw [<- x3] at this; omega
 ·show x.l ++ _ = ((QI a).take (x.i + 1)).map _
  rw [DF (by omega : x.i < (QI a).length), List.map_append, x3]; rfl
 ·have : x.l = pkM a := by rw [x3, List.take_of_length_le (by omega)]; rfl
  rw [this]; exact ⟨rfl, Nat.le_refl _, λ _ _ => ⟨rfl, rfl, rfl⟩⟩
theorem CUV : AG Try.prog AAL (C_pk.spec dGPk) := HR C_pk A_pk [] [201] BOK (λ _ => by kernel_rfl) (λ _ => AD) (λ (a : GPk) h => by
 obtain ⟨h1, h2⟩ : (0 <= a.a /\ a.a <= a.b /\ a.b <= a.o.length /\ a.o.length < 1073741824) /\ ∀ x ∈ a.o, 0 <= x /\ x < a.g.length := h
 exact p_pk a h1 h2) (λ _ => IN rfl rfl) _
end Go.Bal
