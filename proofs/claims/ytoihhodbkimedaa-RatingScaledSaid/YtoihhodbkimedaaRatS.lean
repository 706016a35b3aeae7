/- Package rating: what ties; gaugings that are picked. -/
import Derived.Test.YtoihhodbkimedaaRatR
set_option linter.unusedVariables false
set_option linter.unusedSimpArgs false
namespace Go.Bal
open Go Go.Sym Go.Proofs
def AEP (a : GK) : Bool := bif (IT a).2 then !(BH (IT a).1).2 else false
def dKt : List AVal -> Heap -> Option (GK × List (Nat × Nat) × List Nat)
 | [x, .bptr id _], H => match AEV x H, H id with
  | some (m, e), .live (.box [.d (.list _ n h _)]) => some (⟨AD n λ i => UQ (h i), m⟩, [(100, id)], e)
  | _, _ => none
 | _, _ => none
def C_kt1 : Ctr := { ro := [100], α := GK, xs := λ a => [.d (BL a.k), .bptr 100 0], L := λ a => [(100, bxG a.g)], val := λ a => .bool (AEP a), keep := λ a => [(100, .live (bxG a.g))], pre := λ a => [(a.g.length < 1073741824 /\ a.k.length < 1073741824) /\ ∀ g ∈ a.g, GY g] }
def CIW : Ann := { ann 17 [(AFR, C_named.spec dGK), (Hv, C_isKnot.spec dGsK)] with E := [100] }
def CJQ (a : GK) : Prop := AY Try.prog CIW Yd (AF Yd) (C_kt1.xs a) (AC (C_kt1.L a)) (C_kt1.val a) (C_kt1.keep a) [] []
theorem CMF (a : GK) : (CJQ a) = (((AD a.g.length λ (i : Nat) => gD a.g i).length = a.g.length /\ (∀ (i : Nat), i < (AD a.g.length λ (i : Nat) => gD a.g i).length -> (gD (AD a.g.length λ (i : Nat) => gD a.g
 i) i).st = (gD a.g i).st /\ (gD (AD a.g.length λ (i : Nat) => gD a.g i) i).lo = (gD a.g i).lo /\ (gD (AD a.g.length λ (i : Nat) => gD a.g i) i).hi = (gD a.g i).hi) /\ (AD a.k.length λ (i : Nat) => gD a.k i).length
 = a.k.length /\ (∀ (i : Nat), i < (AD a.k.length λ (i : Nat) => gD a.k i).length -> gD (AD a.k.length λ (i : Nat) => gD a.k i) i = gD a.k i) /\ (AD a.g.length λ (i : Nat) => gD a.g i).length < 1073741824 /\ (AD
 a.k.length λ (i : Nat) => gD a.k i).length < 1073741824) /\ ((IT (GK.mk (AD a.g.length λ (i : Nat) => gD a.g i) (AD a.k.length λ (i : Nat) => gD a.k i))).snd = true -> (AD (IT (GK.mk (AD a.g.length λ (i :
 Nat) => gD a.g i) (AD a.k.length λ (i : Nat) => gD a.k i))).fst.length λ (i : Nat) => gD (IT (GK.mk (AD a.g.length λ (i : Nat) => gD a.g i) (AD a.k.length λ (i : Nat) => gD a.k i))).fst i).length = (IT
 (GK.mk (AD a.g.length λ (i : Nat) => gD a.g i) (AD a.k.length λ (i : Nat) => gD a.k i))).fst.length /\ (∀ (i : Nat), i < (AD (IT (GK.mk (AD a.g.length λ (i : Nat) => gD a.g i) (AD a.k.length λ (i : Nat) =>
 gD a.k i))).fst.length λ (i : Nat) => gD (IT (GK.mk (AD a.g.length λ (i : Nat) => gD a.g i) (AD a.k.length λ (i : Nat) => gD a.k i))).fst i).length -> (gD (AD (IT (GK.mk (AD a.g.length λ (i : Nat) => gD a.g
 i) (AD a.k.length λ (i : Nat) => gD a.k i))).fst.length λ (i : Nat) => gD (IT (GK.mk (AD a.g.length λ (i : Nat) => gD a.g i) (AD a.k.length λ (i : Nat) => gD a.k i))).fst i) i).st = (gD (IT (GK.mk (AD
 a.g.length λ (i : Nat) => gD a.g i) (AD a.k.length λ (i : Nat) => gD a.k i))).fst i).st /\ (gD (AD (IT (GK.mk (AD a.g.length λ (i : Nat) => gD a.g i) (AD a.k.length λ (i : Nat) => gD a.k i))).fst.length fun
 (i : Nat) => gD (IT (GK.mk (AD a.g.length λ (i : Nat) => gD a.g i) (AD a.k.length λ (i : Nat) => gD a.k i))).fst i) i).lo = (gD (IT (GK.mk (AD a.g.length λ (i : Nat) => gD a.g i) (AD a.k.length λ (i : Nat)
 => gD a.k i))).fst i).lo /\ (gD (AD (IT (GK.mk (AD a.g.length λ (i : Nat) => gD a.g i) (AD a.k.length λ (i : Nat) => gD a.k i))).fst.length λ (i : Nat) => gD (IT (GK.mk (AD a.g.length λ (i : Nat) => gD a.g
 i) (AD a.k.length λ (i : Nat) => gD a.k i))).fst i) i).hi = (gD (IT (GK.mk (AD a.g.length λ (i : Nat) => gD a.g i) (AD a.k.length λ (i : Nat) => gD a.k i))).fst i).hi) /\ (AD (IT (GK.mk (AD a.g.length λ (i
 : Nat) => gD a.g i) (AD a.k.length λ (i : Nat) => gD a.k i))).fst.length λ (i : Nat) => gD (IT (GK.mk (AD a.g.length λ (i : Nat) => gD a.g i) (AD a.k.length λ (i : Nat) => gD a.k i))).fst i).length <
 1073741824 /\ ∀ (g : Gau), List.Mem g (AD (IT (GK.mk (AD a.g.length λ (i : Nat) => gD a.g i) (AD a.k.length λ (i : Nat) => gD a.k i))).fst.length λ (i : Nat) => gD (IT (GK.mk (AD a.g.length λ (i : Nat) => gD
 a.g i) (AD a.k.length λ (i : Nat) => gD a.k i))).fst i) -> 0 <= g.st /\ g.st <= 2000 /\ 0 <= g.lo /\ g.lo <= g.hi /\ g.hi <= 200000) /\ (AEP a = bif (IT (GK.mk (AD a.g.length λ (i : Nat) => gD a.g i) (AD a.k.length λ (i
 : Nat) => gD a.k i))).snd then !(BH (AD (IT (GK.mk (AD a.g.length λ (i : Nat) => gD a.g i) (AD a.k.length λ (i : Nat) => gD a.k i))).fst.length λ (i : Nat) => gD (IT (GK.mk (AD a.g.length λ (i : Nat) =>
 gD a.g i) (AD a.k.length λ (i : Nat) => gD a.k i))).fst i)).snd else false) /\ a.g.length = a.g.length /\ ∀ (i : Nat), i < a.g.length -> (gD a.g i).st = (gD a.g i).st /\ (gD a.g i).lo = (gD a.g i).lo /\ (gD a.g i).hi = (gD
 a.g i).hi) := by kernel_rfl
def knt3 (g : List Gau) (a b : Int) : List Int -> Option (List Int)
 | [] => none
 | c :: cs => bif AEP ⟨g, [a, b, c]⟩ then some [a, b, c] else knt3 g a b cs
def orO (x y : Option (List Int)) : Option (List Int) := match x with
 | some z => some z
 | none => y
def knt2 (g : List Gau) (a : Int) : List Int -> Option (List Int)
 | [] => none
 | b :: cs => bif AEP ⟨g, [a, b]⟩ then some [a, b] else orO (knt3 g a b cs) (knt2 g a cs)
def Vf (g : List Gau) : List Int -> Option (List Int)
 | [] => none
 | a :: bs => orO (knt2 g a bs) (Vf g bs)
def VV (a : GK) : List Int := (Vf a.g a.k).getD []
structure IJK where
 i : Nat
 j : Nat
 k : Nat
 deriving Inhabited
structure IJ2 where
 i : Nat
 j : Nat
 deriving Inhabited
def kdS (a : GK) (i : Nat) : List (Nat × AVal) := [(1, .d (BL a.k)), (5, .fn (.func Ge) [] [.bptr 1000 0]), (13, .d (BL a.k)), (14, .int a.k.length), (15, .int i)]
def kdT (a : GK) (i j : Nat) : List (Nat × AVal) := kdS a i ++ [(6, .int i), (7, .int (gD a.k i)), (23, .d (BL (a.k.drop (i + 1)))), (24, .int (a.k.drop (i + 1)).length), (25, .int j)]
def kdH (a : GK) : List (Nat × HCell) := [(1000, .live (bxG a.g))]
def kd3 (a : GK) : Shape := { α := Nat, dflt := 0, T := λ i => ⟨kdS a i, kdH a⟩, inv := λ i => i <= a.k.length /\ Vf a.g a.k = Vf a.g (a.k.drop i), meas := λ i => a.k.length - i }
def kd6 (a : GK) (m : Nat) : Shape := { α := IJ2, dflt := default, T := λ x => ⟨kdT a x.i x.j, kdH a⟩, inv := λ x => a.k.length - x.i = m /\ x.i < a.k.length /\ x.j <= (a.k.drop (x.i + 1)).length /\ Vf a.g a.k = orO (knt2 a.g (gD a.k x.i) ((a.k.drop (x.i + 1)).drop x.j)) (Vf a.g (a.k.drop (x.i + 1))), meas := λ x => (a.k.drop (x.i + 1)).length - x.j }
def kd11 (a : GK) (m q : Nat) : Shape := { α := IJK, dflt := default, T := λ x => ⟨kdT a x.i x.j ++ [(9, .int (gD (a.k.drop (x.i + 1)) x.j)), (43, .d (BL (a.k.drop (x.i + x.j + 2)))), (44, .int (a.k.drop (x.i + x.j + 2)).length), (45, .int x.k)], kdH a⟩, inv := λ x => a.k.length - x.i = m /\ x.i < a.k.length /\ (a.k.drop (x.i + 1)).length - x.j = q /\ x.j < (a.k.drop (x.i + 1)).length /\ x.k <= (a.k.drop (x.i + x.j + 2)).length /\ Vf a.g a.k = orO (orO (knt3 a.g (gD a.k x.i) (gD (a.k.drop (x.i + 1)) x.j) ((a.k.drop (x.i + x.j + 2)).drop x.k)) (knt2 a.g (gD a.k x.i) (a.k.drop (x.i + x.j + 2)))) (Vf a.g (a.k.drop (x.i + 1))), meas := λ x => (a.k.drop (x.i + x.j + 2)).length - x.k }
def C_kd : Ctr := { α := GK, xs := xGK, L := λ _ => [], val := λ a => .d (BL (VV a)), keep := λ _ => [], pre := λ a => [(a.g.length < 1073741824 /\ a.k.length < 1073741824) /\ ∀ g ∈ a.g, GY g] }
def A_kd (a : GK) : Ann := { ann 62 [(Ge, C_kt1.spec dKt)] with md := λ id => if id = 8 then some (λ k => if k = 3 then 4 else 0) else if id = 9 then some (λ k => if k = 2 then 4 else 0) else if id = 13 then some (λ k => if k = 4 then 4 else 0) else if id = 14 then some (λ k => if k = 3 then 4 else 0) else none, loops := λ id => if id = 3 then some [kd3 a] else none, inner := λ gs id => if id = 6 then some [kd6 a (gs.getD 0 0)] else if id = 11 then some [kd11 a (gs.getD 1 0) (gs.getD 0 0)] else none }
def V_kd (a : GK) : Prop := AY Try.prog (A_kd a) ACC (AF ACC) (xGK a) (AC []) (C_kd.val a) [] [] []
abbrev OJ (a : GK) : Prop := a.k.length = a.k.length
abbrev NP (a : GK) : Prop := ∀ (i : Nat), i < a.k.length -> gD a.k i = gD a.k i
abbrev lR (a : GK) : Prop := (↑a.k.length : Int) = (↑a.k.length : Int)
abbrev hP (a : GK) : Prop := a.g.length = a.g.length /\ ∀ (i : Nat), i < a.g.length -> (gD a.g i).st = (gD a.g i).st /\ (gD a.g i).lo = (gD a.g i).lo /\ (gD a.g i).hi = (gD a.g i).hi
abbrev BDG (a : Nat) (a1 : GK) : Prop := a <= a1.k.length /\ Vf a1.g a1.k = Vf a1.g (List.drop a a1.k)
abbrev BOZ (a : Nat) (a1 : GK) : Prop := (↑a : Int) < (↑a1.k.length : Int)
abbrev BGD (a : Nat) : Int := IntKind.i64.wrap ((↑a : Int) + 1)
abbrev BMG (a : GK) : Prop := (↑a.k.length : Int) <= (↑a.k.length : Int)
abbrev BMZ (a : IJ2) (a1 : Nat) : Prop := (↑a.i : Int) = (↑a1 : Int)
abbrev I9 (a : IJ2) (a1 : GK) : List Int := List.drop (a.i + 1) a1.k
abbrev KU (a : IJ2) (a1 : GK) : Nat := (I9 a a1).length
abbrev BEX (a : Nat) : Nat := (BGD a).toNat
abbrev BDS (a : GK) (a1 : Nat) : Nat := a.k.length - BEX a1
abbrev BJD (i : Nat) (a : IJ2) (a1 : GK) : Prop := i < KU a a1
abbrev AGJ (a : IJ2) (a1 : GK) (i : Nat) : Int := gD (I9 a a1) i
abbrev vO (a : GK) (a1 : Nat) : Nat := a.k.length - a1
abbrev AGS (a : GK) (a1 : IJ2) (a2 : Nat) : Prop := a.k.length - a1.i = vO a a2 /\ a1.i < a.k.length /\ a1.j <= KU a1 a /\ Vf a.g a.k = orO (knt2 a.g (gD a.k a1.i) (List.drop a1.j (I9 a1 a))) (Vf a.g
 (I9 a1 a))
abbrev BGB (a : IJ2) (a1 : GK) : Prop := (↑a.j : Int) < (↑(KU a a1) : Int)
abbrev BIH (i : Nat) : Bool := decide (i = 0)
abbrev BEN (a : IJ2) (a1 : GK) : Int := gD (I9 a a1) a.j
abbrev AIL (i : Nat) (a : GK) (a1 : IJ2) : Int := bif BIH i then gD a.k a1.i else BEN a1 a
abbrev AIJ (a : GK) (a1 : IJ2) : List Int := AD 2 λ (i : Nat) => AIL i a a1
abbrev AHZ (a : GK) (a1 : IJ2) : Nat := (AIJ a a1).length
abbrev Qs (a : GK) : List Gau := AD a.g.length λ (i : Nat) => gD a.g i
abbrev sF (a : GK) : Nat := (Qs a).length
abbrev BDN (a : GK) : Prop := sF a = a.g.length
abbrev AFO (a : GK) (i : Nat) : Gau := gD (Qs a) i
abbrev BCZ (a : GK) (i : Nat) : Int := (AFO a i).st
abbrev BDA (a : GK) (i : Nat) : Int := (AFO a i).lo
abbrev BDV (a : GK) (i : Nat) : Int := (AFO a i).hi
abbrev BJE (a : GK) : Prop := ∀ (i : Nat), i < sF a -> BCZ a i = (gD a.g i).st /\ BDA a i = (gD a.g i).lo /\ BDV a i = (gD a.g i).hi
abbrev BDL (a : GK) : Prop := a.g.length = sF a
abbrev BDT (a : GK) : Prop := ∀ (i : Nat), i < a.g.length -> (gD a.g i).st = BCZ a i /\ (gD a.g i).lo = BDA a i /\ (gD a.g i).hi = BDV a i
abbrev BFE (a : GK) : Prop := sF a < 1073741824
abbrev BIM (a : GK) : Prop := ∀ (g : Gau), List.Mem g (Qs a) -> 0 <= g.st /\ g.st <= 2000 /\ 0 <= g.lo /\ g.lo <= g.hi /\ g.hi <= 200000
abbrev AHI (a : IJ2) : Int := IntKind.i64.wrap (IntKind.i64.wrap ((↑a.i : Int) + (↑a.j : Int)) + 2)
abbrev BEV (a : IJK) (a1 : IJ2) : Prop := (↑a.i : Int) = (↑a1.i : Int)
abbrev qA (a : IJK) (a1 : GK) : List Int := List.drop (a.i + 1) a1.k
abbrev JD (a : IJK) (a1 : GK) : Nat := (qA a a1).length
abbrev BFS (i : Nat) (a : IJK) (a1 : GK) : Prop := i < JD a a1
abbrev sN (a : IJK) (a1 : GK) (i : Nat) : Int := gD (qA a a1) i
abbrev Ph (a : IJK) (a1 : GK) : Int := gD (qA a a1) a.j
abbrev Uc (a : IJK) (a1 : GK) : List Int := List.drop (a.i + a.j + 2) a1.k
abbrev KV (a : IJK) (a1 : GK) : Nat := (Uc a a1).length
abbrev BEL (a : IJ2) : Nat := (AHI a).toNat
abbrev BHW (a : GK) (a1 : IJ2) : Nat := a.k.length - BEL a1
abbrev BHV (i : Nat) (a : IJK) (a1 : GK) : Prop := i < KV a a1
abbrev AGT (a : IJK) (a1 : GK) (i : Nat) : Int := gD (Uc a a1) i
abbrev AHB (a : IJ2) (a1 : GK) : Nat := KU a a1 - a.j
abbrev AGV (a : GK) (a1 : IJK) (a2 : Nat) (a3 : IJ2) : Prop := a.k.length - a1.i = vO a a2 /\ a1.i < a.k.length /\ JD a1 a - a1.j = AHB a3 a /\ a1.j < JD a1 a /\ a1.k <= KV a1 a /\ Vf a.g a.k =
 orO (orO (knt3 a.g (gD a.k a1.i) (Ph a1 a) (List.drop a1.k (Uc a1 a))) (knt2 a.g (gD a.k a1.i) (Uc a1 a))) (Vf a.g (qA a1 a))
abbrev BDI (a : IJK) (a1 : GK) : Prop := (↑a.k : Int) < (↑(KV a a1) : Int)
abbrev AGL (i : Nat) (a : GK) (a1 : IJK) : Int := bif BIH i then gD a.k a1.i else bif decide (i - 1 = 0) then Ph a1 a else gD (Uc a1 a) a1.k
abbrev AHN (a : GK) (a1 : IJK) : List Int := AD 3 λ (i : Nat) => AGL i a a1
abbrev AHY (a : GK) (a1 : IJK) : Nat := (AHN a a1).length
abbrev BIG (a : IJK) (a1 : IJK) : Prop := (↑a.i : Int) = (↑a1.i : Int)
abbrev BEI (a : IJK) (a1 : GK) : Nat := KV a a1 - a.k
abbrev BDH (a : IJ2) (a1 : IJK) : Prop := (↑a.i : Int) = (↑a1.i : Int)
abbrev BDQ (a : GK) : Prop := (VV a).length = 0
theorem CNX (a : GK) : (V_kd a) = ((∃ (a_1 : Nat), (OJ a /\ NP a /\ OJ a /\ NP a /\ lR a /\ (↑a_1 : Int) = 0 /\ hP a) /\ BDG a_1 a) /\ ∀ (a_1 : Nat), BDG a_1 a -> bif decide (BOZ a_1 a) then (0
 <= (↑a_1 : Int) /\ BOZ a_1 a) /\ (0 <= BGD a_1 /\ BGD a_1 <= (↑a.k.length : Int) /\ BMG a) /\ (∃ (a_3 : IJ2), (OJ a /\ NP a /\ OJ a /\ NP a /\ lR a /\ BMZ a_3 a_1 /\ BMZ a_3 a_1 /\ gD a.k a_3.i =
 gD a.k a_1 /\ KU a_3 a = BDS a a_1 /\ (∀ (i : Nat), BJD i a_3 a -> AGJ a_3 a i = gD a.k (BEX a_1 + i)) /\ (↑(KU a_3 a) : Int) = (↑(BDS a a_1) : Int) /\ (↑a_3.j : Int) = 0 /\ hP a) /\ AGS a
 a_3 a_1) /\ ∀ (a_3 : IJ2), AGS a a_3 a_1 -> bif decide (BGB a_3 a) then (0 <= (↑a_3.j : Int) /\ BGB a_3 a) /\ (AHZ a a_3 = 2 /\ (∀ (i : Nat), i < AHZ a a_3 -> gD (AIJ a a_3) i = AIL i a a_3) /\
 BDN a /\ BJE a /\ BDL a /\ BDT a /\ (BFE a /\ AHZ a a_3 < 1073741824) /\ BIM a) /\ bif AEP (GK.mk (Qs a) (AIJ a a_3)) then (VV a).length = 2 /\ ∀ (i : Nat), i < (VV a).length -> gD (VV
 a) i = AIL i a a_3 else (0 <= AHI a_3 /\ AHI a_3 <= (↑a.k.length : Int) /\ BMG a) /\ (∃ (a_5 : IJK), (OJ a /\ NP a /\ OJ a /\ NP a /\ lR a /\ BEV a_5 a_3 /\ BEV a_5 a_3 /\ gD a.k a_5.i = gD
 a.k a_3.i /\ JD a_5 a = KU a_3 a /\ (∀ (i : Nat), BFS i a_5 a -> sN a_5 a i = AGJ a_3 a i) /\ (↑(JD a_5 a) : Int) = (↑(KU a_3 a) : Int) /\ (↑a_5.j : Int) = (↑a_3.j : Int) /\ Ph a_5 a =
 BEN a_3 a /\ KV a_5 a = BHW a a_3 /\ (∀ (i : Nat), BHV i a_5 a -> AGT a_5 a i = gD a.k (BEL a_3 + i)) /\ (↑(KV a_5 a) : Int) = (↑(BHW a a_3) : Int) /\ (↑a_5.k : Int) = 0 /\ hP a) /\ AGV
 a a_5 a_1 a_3) /\ ∀ (a_5 : IJK), AGV a a_5 a_1 a_3 -> bif decide (BDI a_5 a) then (0 <= (↑a_5.k : Int) /\ BDI a_5 a) /\ (AHY a a_5 = 3 /\ (∀ (i : Nat), i < AHY a a_5 -> gD (AHN a a_5) i = AGL i a
 a_5) /\ BDN a /\ BJE a /\ BDL a /\ BDT a /\ (BFE a /\ AHY a a_5 < 1073741824) /\ BIM a) /\ bif AEP (GK.mk (Qs a) (AHN a a_5)) then (VV a).length = 3 /\ ∀ (i : Nat), i < (VV a).length ->
 gD (VV a) i = AGL i a a_5 else ∃ (a_7 : IJK), (OJ a /\ NP a /\ OJ a /\ NP a /\ lR a /\ BIG a_7 a_5 /\ BIG a_7 a_5 /\ gD a.k a_7.i = gD a.k a_5.i /\ JD a_7 a = JD a_5 a /\ (∀ (i : Nat),
 BFS i a_7 a -> sN a_7 a i = sN a_5 a i) /\ (↑(JD a_7 a) : Int) = (↑(JD a_5 a) : Int) /\ (↑a_7.j : Int) = (↑a_5.j : Int) /\ Ph a_7 a = Ph a_5 a /\ KV a_7 a = KV a_5 a /\ (∀ (i : Nat),
 BHV i a_7 a -> AGT a_7 a i = AGT a_5 a i) /\ (↑(KV a_7 a) : Int) = (↑(KV a_5 a) : Int) /\ (↑a_7.k : Int) = IntKind.i64.wrap ((↑a_5.k : Int) + 1) /\ hP a) /\ AGV a a_7 a_1 a_3 /\ BEI a_7 a <
 BEI a_5 a else ∃ (a_7 : IJ2), (OJ a /\ NP a /\ OJ a /\ NP a /\ lR a /\ BDH a_7 a_5 /\ BDH a_7 a_5 /\ gD a.k a_7.i = gD a.k a_5.i /\ KU a_7 a = JD a_5 a /\ (∀ (i : Nat), BJD i a_7 a ->
 AGJ a_7 a i = sN a_5 a i) /\ (↑(KU a_7 a) : Int) = (↑(JD a_5 a) : Int) /\ (↑a_7.j : Int) = IntKind.i64.wrap ((↑a_5.j : Int) + 1) /\ hP a) /\ AGS a a_7 a_1 /\ AHB a_7 a < AHB a_3 a else ∃
 (a_5 : Nat), (OJ a /\ NP a /\ OJ a /\ NP a /\ lR a /\ (↑a_5 : Int) = IntKind.i64.wrap ((↑a_3.i : Int) + 1) /\ hP a) /\ BDG a_5 a /\ vO a a_5 < vO a a_1 else BDQ a /\ BDQ a) := by
 kernel_rfl
structure GPk where
 g : List Gau
 o : List Int
 a : Int
 b : Int
def dGPk : List AVal -> Heap -> Option (GPk × List (Nat × Nat) × List Nat)
 | [.d x, .d y, .bptr c _, .bptr id _], H => match H id, H c with
  | .live (.box [.d (.list _ n h _)]), .live (.box [.d (.list _ m r _)]) => some (⟨AD n λ i => UQ (h i), AD m λ i => DK (r i), DK x, DK y⟩, [(100, id), (101, c)], [])
  | _, _ => none
 | _, _ => none
def PU (a : GPk) : List Int := (a.o.take a.b.toNat).drop a.a.toNat
def pkM (a : GPk) : List Gau := (PU a).map λ i => gD a.g i.toNat
def pkH (a : GPk) : List (Nat × HCell) := [(101, .live (.box [.d (BL a.o)])), (100, .live (bxG a.g))]
def pk3n (a : GPk) : Shape := { α := One, dflt := default, T := λ _ => ⟨[(3, .bptr 100 0), (7, .d PD), (13, .d (BL (PU a))), (14, .int (PU a).length), (15, .int 0)], pkH a⟩, inv := λ _ => True, meas := λ _ => (PU a).length + 1 }
def pk3o (a : GPk) : Shape := { α := GsK, dflt := default, T := λ x => ⟨[(3, .bptr 100 0), (7, .own 201 3 0 x.l.length), (13, .d (BL (PU a))), (14, .int (PU a).length), (15, .int x.i)], pkH a ++ [(201, .live (rowG x.l))]⟩, inv := λ x => 1 <= x.i /\ x.i <= (PU a).length /\ x.l = ((PU a).take x.i).map λ i => gD a.g i.toNat, meas := λ x => (PU a).length - x.i, again := [(201, 6096)] }
def C_pk : Ctr := { ro := [100, 101], α := GPk, xs := λ a => [.int a.a, .int a.b, .bptr 101 0, .bptr 100 0], L := λ a => [(101, .box [.d (BL a.o)]), (100, bxG a.g)], val := λ a => .d (BO (pkM a)), keep := pkH, pre := λ a => [(0 <= a.a /\ a.a <= a.b /\ a.b <= a.o.length /\ a.o.length < 1073741824) /\ ∀ x ∈ a.o, 0 <= x /\ x < a.g.length] }
def A_pk (a : GPk) : Ann := { ann 28 [] with E := [101, 100], mt := λ id => id == 5, loops := λ id => if id = 3 then some [pk3n a, pk3o a] else none }
def V_pk (a : GPk) : Prop := AY Try.prog (A_pk a) A0 (AF A0) (C_pk.xs a) (AC (C_pk.L a)) (C_pk.val a) (C_pk.keep a) [] [201]
abbrev BCV : Prop := (0 : Nat) = (0 : Nat)
abbrev BPK (a : GPk) : Nat := a.b.toNat - a.a.toNat
abbrev BCS (a : GPk) : Prop := a.o.length = a.o.length
abbrev BEM (a : GPk) : Prop := ∀ (i : Nat), i < a.o.length -> gD a.o i = gD a.o i
abbrev BHD (a : GPk) : Prop := a.g.length = a.g.length
abbrev BDR (a : GPk) : Prop := ∀ (i : Nat), i < a.g.length -> (gD a.g i).st = (gD a.g i).st /\ (gD a.g i).lo = (gD a.g i).lo /\ (gD a.g i).hi = (gD a.g i).hi
abbrev BCX (a : GPk) : Prop := BCS a /\ BEM a /\ BHD a /\ BDR a
abbrev BOV (a : GPk) : Prop := (0 : Int) < (↑(PU a).length : Int)
abbrev BNW (a : GPk) : Int := gD (PU a) (0 : Nat)
abbrev BFB : Prop := (0 : Nat) < (1 : Nat)
abbrev BHC : Prop := (3 : Nat) = (3 : Nat)
abbrev BGA : Prop := (1 : Nat) <= (1 : Nat) /\ (BFB -> BHC)
abbrev BCH (a : GsK) : Prop := a.l.length = (1 : Nat)
abbrev BJG (a : GPk) : Prop := (PU a).length = (PU a).length
abbrev BIJ (a : GPk) : Prop := ∀ (i : Nat), i < (PU a).length -> gD (PU a) i = gD (PU a) i
abbrev BIK (a : GPk) : Prop := (↑(PU a).length : Int) = (↑(PU a).length : Int)
abbrev AGX (a : GPk) : Gau := gD a.g (gD (PU a) (Int.toNat (0 : Int))).toNat
abbrev AGR (a : GsK) (a1 : GPk) : Prop := (1 : Nat) <= a.i /\ a.i <= (PU a1).length /\ a.l = List.map (λ (i : Int) => gD a1.g i.toNat) (List.take a.i (PU a1))
abbrev AHM (a : GPk) (a1 : GsK) : Nat := (PU a).length - a1.i
abbrev BDZ (a : GPk) : Prop := (pkM a).length = (0 : Nat)
abbrev BHZ (a : GsK) (a1 : GPk) : Prop := (↑a.i : Int) < (↑(PU a1).length : Int)
abbrev AHS (a : GsK) : Nat := a.l.length + (1 : Nat)
abbrev BFV (a : GsK) (a1 : GsK) : Prop := a.l.length = AHS a1
abbrev AHC (i : Nat) (a : GsK) : Bool := decide (i < a.l.length)
abbrev AFT (a : GPk) (a1 : GsK) : Gau := gD a.g (gD (PU a) a1.i).toNat
abbrev AHJ (a : GsK) (j : Nat) : Gau := gD a.l ((0 : Nat) + j)
theorem CNS (a : GPk) : (V_pk a) = (((0 : Int) <= a.a /\ a.a <= a.b /\ a.b <= (↑a.o.length : Int)) /\ (∃ (a_1 : One), (BCV /\ (∀ (i : Nat), i < (0 : Nat) -> false = false) /\ (PU a).length = BPK a /\ (∀ (i : Nat), i <
 (PU a).length -> gD (PU a) i = gD a.o (a.a.toNat + i)) /\ (↑(PU a).length : Int) = (↑(BPK a) : Int) /\ Int.ofNat (0 : Nat) = Int.ofNat (0 : Nat) /\ BCX a) /\ True) /\ (∀ (a_1 : One), True -> bif decide (BOV a) then
 ((0 : Int) <= (0 : Int) /\ BOV a) /\ (((0 : Int) <= BNW a /\ BNW a < (↑a.g.length : Int)) /\ (True /\ ((0 : Nat) < (0 : Nat) -> (0 : Nat) = (3 : Nat))) /\ BGA /\ (true = true -> BFB) /\ (1 : Nat) <=
 (9223372036854775807 : Nat) /\ (24 : Nat) <= (140737488355328 : Nat)) /\ ∃ (a_3 : GsK), (BCV /\ BCH a_3 /\ BJG a /\ BIJ a /\ BIK a /\ (↑a_3.i : Int) = IntKind.i64.wrap ((0 : Int) + (1 : Int)) /\ BCS a /\
 BEM a /\ BHD a /\ BDR a /\ BCH a_3 /\ ∀ (i : Nat), i < a_3.l.length -> (gD a_3.l i).st = (AGX a).st /\ (gD a_3.l i).lo = (AGX a).lo /\ (gD a_3.l i).hi = (AGX a).hi) /\ AGR a_3 a /\ AHM a a_3 <
 (PU a).length + (1 : Nat) else BDZ a /\ BDZ a /\ BCX a) /\ ∀ (a_1 : GsK), AGR a_1 a -> bif decide (BHZ a_1 a) then ((0 : Int) <= (↑a_1.i : Int) /\ BHZ a_1 a) /\ (((0 : Int) <= gD (PU a) a_1.i /\ gD (PU
 a) a_1.i < (↑a.g.length : Int)) /\ (a_1.l.length = a_1.l.length /\ ((0 : Nat) < a_1.l.length -> BHC)) /\ BGA /\ (false = true -> BFB) /\ AHS a_1 <= (9223372036854775807 : Nat) /\ AHS a_1 * (24 : Nat) <=
 (140737488355328 : Nat)) /\ ∃ (a_3 : GsK), (BCV /\ BFV a_3 a_1 /\ BJG a /\ BIJ a /\ BIK a /\ (↑a_3.i : Int) = IntKind.i64.wrap ((↑a_1.i : Int) + (1 : Int)) /\ BCS a /\ BEM a /\ BHD a /\ BDR a /\
 BFV a_3 a_1 /\ ∀ (i : Nat), i < a_3.l.length -> ((gD a_3.l i).st = bif AHC i a_1 then (gD a_1.l i).st else (AFT a a_1).st) /\ ((gD a_3.l i).lo = bif AHC i a_1 then (gD a_1.l i).lo else (AFT a a_1).lo) /\
 (gD a_3.l i).hi = bif AHC i a_1 then (gD a_1.l i).hi else (AFT a a_1).hi) /\ AGR a_3 a /\ AHM a a_3 < AHM a a_1 else (pkM a).length = a_1.l.length /\ (0 : Nat) + a_1.l.length <= a_1.l.length /\ (∀ (j :
 Nat), j < (pkM a).length -> (gD (pkM a) j).st = (AHJ a_1 j).st /\ (gD (pkM a) j).lo = (AHJ a_1 j).lo /\ (gD (pkM a) j).hi = (AHJ a_1 j).hi) /\ BCX a) := by kernel_rfl
theorem CNA : AG Try.prog Ge (C_kt1.spec dKt) := JX C_kt1 (λ _ => CIW) [] [] BJX (λ _ => by kernel_rfl) (λ _ => AB BKD (AB ACG AE)) (λ (a : GK) h => by
 show CJQ a; rw [CMF]; simp only [CC, eq_self, implies_true, forall_const]
 obtain ⟨⟨h1, h2⟩, h3⟩ : (a.g.length < 1073741824 /\ a.k.length < 1073741824) /\ ∀ g ∈ a.g, GY g := h
 exact ⟨⟨h1, h2⟩, λ _ => CAR h3 h1, rfl⟩) (λ _ => KJ rfl rfl) _
theorem AWU {l : List Int} {i : Nat} (h : i < l.length) : l.drop i = gD l i :: l.drop (i + 1) := by
 rw [List.drop_eq_getElem_cons h]; simp [gD, List.getD_eq_getElem?_getD, h]
theorem QB (l : List Int) (i j : Nat) : gD (l.drop i) j = gD l (i + j) := by
 simp [gD, List.getD_eq_getElem?_getD]
theorem rng2 (a b : Int) : (AD 2 λ i => bif decide (i = 0) then a else b) = [a, b] := rfl
theorem rng3 (a b c : Int) : (AD 3 λ i => bif decide (i = 0) then a else bif decide (i - 1 = 0) then b else c) = [a, b, c] := rfl
theorem all2 (a b : Int) : ∀ i, i < 2 -> gD [a, b] i = bif decide (i = 0) then a else b := λ i hi => by
 match i, hi with
 | 0, _ => rfl
 | 1, _ => rfl
theorem all3 (a b c : Int) : ∀ i, i < 3 -> gD [a, b, c] i = bif decide (i = 0) then a else bif decide (i - 1 = 0) then b else c := λ i hi => by
 match i, hi with
 | 0, _ => rfl
 | 1, _ => rfl
 | 2, _ => rfl
theorem CKU (g : List Gau) (a : Int) (bs : List Int) : Vf g (a :: bs) = orO (knt2 g a bs) (Vf g bs) := rfl
theorem CNB (g : List Gau) (a b : Int) (cs : List Int) : knt2 g a (b :: cs) = bif AEP ⟨g, [a, b]⟩ then some [a, b] else orO (knt3 g a b cs) (knt2 g a cs) := rfl
theorem CLO (g : List Gau) (a b c : Int) (cs : List Int) : knt3 g a b (c :: cs) = bif AEP ⟨g, [a, b, c]⟩ then some [a, b, c] else knt3 g a b cs := rfl
theorem p_kd (a : GK) (h1 : a.g.length < 1073741824) (h2 : a.k.length < 1073741824) (h3 : ∀ g ∈ a.g, GY g) : V_kd a := by
 rw [CNX]; delta OJ NP lR hP BDG BOZ BGD BMG BMZ I9 KU BEX BDS BJD AGJ vO AGS BGB BIH BEN AIL AIJ AHZ Qs sF BDN AFO BCZ BDA BDV BJE BDL BDT BFE BIM AHI BEV qA JD BFS sN Ph Uc KV BEL BHW BHV AGT AHB AGV BDI AGL AHN AHY BIG BEI BDH BDQ; simp only [CC, eq_self, implies_true, forall_const, List.length_drop, rng2, rng3]
 refine ⟨⟨0, rfl, Nat.zero_le _, rfl⟩, λ i ⟨hi, hI⟩ => ⟨λ hlt => ?_, λ hge => ?_⟩⟩
 ·have hlt : i < a.k.length := Int.ofNat_lt.1 hlt
  rw [CA (by omega)]
  simp only [Int.toNat_natCast]
  rw [AWU hlt, CKU] at hI
  refine ⟨⟨by omega, by omega⟩, ⟨by omega, by omega, Int.le_refl _⟩, ⟨⟨i, 0⟩, ⟨rfl, rfl, rfl, rfl, λ j hj => QB _ _ _, rfl, rfl⟩, rfl, hlt, Nat.zero_le _, hI⟩, λ x ⟨x1, x2, x3, x4⟩ => ⟨λ hj => ?_, λ hj => ?_⟩⟩
  ·have hj : x.j < a.k.length - (x.i + 1) := Int.ofNat_lt.1 hj
   have hxi : x.i = i := by omega
   have e : (IntKind.i64.wrap (IntKind.i64.wrap ((x.i : Int) + x.j) + 2)) = ((x.i + x.j + 2 : Nat) : Int) := by
    rw [EO (n := (x.i : Int) + x.j) (by omega) (by omega), EO (by omega) (by omega)]; omega
   rw [AWU (l := a.k.drop (x.i + 1)) (by rw [List.length_drop]; omega), List.drop_drop, show x.i + 1 + (x.j + 1) = x.i + x.j + 2 by omega, CNB] at x4
   refine ⟨⟨by omega, by omega⟩, ⟨rfl, all2 _ _, ⟨h1, by show 2 < 1073741824; omega⟩, h3⟩, λ ht => ?_, λ ht => ?_⟩
   ·rw [ht] at x4
    have ek : VV a = [gD a.k x.i, gD (a.k.drop (x.i + 1)) x.j] := by unfold VV; rw [x4]; rfl
    rw [ek]; exact ⟨rfl, all2 _ _⟩
   ·rw [ht] at x4
    rw [e]; simp only [Int.toNat_natCast]
    refine ⟨⟨by omega, by omega, Int.le_refl _⟩, ⟨⟨x.i, x.j, 0⟩, ⟨rfl, rfl, rfl, rfl, λ _ _ => rfl, rfl, rfl, rfl, rfl, λ j hj => QB _ _ _, rfl, rfl⟩, x1, x2, rfl, hj, Nat.zero_le _, x4⟩, λ y ⟨y1, y2, y3, y4, y5, y6⟩ => ⟨λ hk => ?_, λ hk => ?_⟩⟩
    ·have hk : y.k < a.k.length - (y.i + y.j + 2) := Int.ofNat_lt.1 hk
     rw [AWU (l := a.k.drop (y.i + y.j + 2)) (by rw [List.length_drop]; omega), CLO] at y6
     refine ⟨⟨by omega, by omega⟩, ⟨rfl, all3 _ _ _, ⟨h1, by show 3 < 1073741824; omega⟩, h3⟩, λ ht => ?_, λ ht => ?_⟩
     ·rw [ht] at y6
      have ek : VV a = [gD a.k y.i, gD (a.k.drop (y.i + 1)) y.j, gD (a.k.drop (y.i + y.j + 2)) y.k] := by unfold VV; rw [y6]; rfl
      rw [ek]; exact ⟨rfl, all3 _ _ _⟩
     ·rw [ht] at y6
      exact ⟨⟨y.i, y.j, y.k + 1⟩, ⟨rfl, rfl, rfl, rfl, λ _ _ => rfl, rfl, rfl, rfl, rfl, λ _ _ => rfl, rfl, (CA (by omega)).symm⟩, ⟨y1, y2, y3, y4, by show y.k + 1 <= a.k.length - (y.i + y.j + 2); omega, y6⟩, by show a.k.length - (y.i + y.j + 2) - (y.k + 1) < _; omega⟩
    ·have hk : a.k.length - (y.i + y.j + 2) <= y.k := by omega
     rw [List.drop_of_length_le (l := a.k.drop (y.i + y.j + 2)) (by rw [List.length_drop]; omega)] at y6
     refine ⟨⟨y.i, y.j + 1⟩, ⟨rfl, rfl, rfl, rfl, λ _ _ => rfl, rfl, (CA (by omega)).symm⟩, ⟨y1, y2, by show y.j + 1 <= a.k.length - (y.i + 1); omega, ?_⟩, by show a.k.length - (y.i + 1) - (y.j + 1) < _; omega⟩
     show _ = orO (knt2 a.g (gD a.k y.i) ((a.k.drop (y.i + 1)).drop (y.j + 1))) _
     rw [List.drop_drop, show y.i + 1 + (y.j + 1) = y.i + y.j + 2 by omega]; exact y6
  ·have hj : a.k.length - (x.i + 1) <= x.j := by omega
   rw [List.drop_of_length_le (l := a.k.drop (x.i + 1)) (by rw [List.length_drop]; omega)] at x4
   exact ⟨x.i + 1, (CA (by omega)).symm, ⟨by omega, x4⟩, by omega⟩
 ·rw [List.drop_of_length_le (by omega)] at hI
  have ek : VV a = [] := by unfold VV; rw [hI]; rfl
  rw [ek]; rfl
theorem COJ : AG Try.prog J8 (C_kd.spec dGK) := JX C_kd A_kd [] [] BPM (λ _ => by kernel_rfl) (λ _ => AB CNA AE) (λ (a : GK) h => by
 obtain ⟨⟨h1, h2⟩, h3⟩ : (a.g.length < 1073741824 /\ a.k.length < 1073741824) /\ ∀ g ∈ a.g, GY g := h
 exact p_kd a h1 h2 h3) (λ _ => KJ rfl rfl) _
theorem CGQ {a : GPk} (h : 0 <= a.a /\ a.a <= a.b /\ a.b <= a.o.length) : (PU a).length = a.b.toNat - a.a.toNat := by
 unfold PU; rw [List.length_drop, List.length_take]; omega
theorem CMP {a : GPk} {i : Nat} (h : i < (PU a).length) : gD (PU a) i = gD a.o (a.a.toNat + i) := by
 unfold PU at *
 rw [QB]
 rw [List.length_drop, List.length_take] at h
 simp [gD, List.getD_eq_getElem?_getD, List.getElem?_take, show a.a.toNat + i < a.b.toNat by omega]
theorem BQS {a : GPk} {x : Int} (h : x ∈ PU a) : x ∈ a.o := List.mem_of_mem_take (List.mem_of_mem_drop h)
theorem p_pk (a : GPk) (h : 0 <= a.a /\ a.a <= a.b /\ a.b <= a.o.length /\ a.o.length < 1073741824) (hx : ∀ x ∈ a.o, 0 <= x /\ x < a.g.length) : V_pk a := by
 rw [CNS]; delta BCV BPK BCS BEM BHD BDR BCX BOV BNW BFB BHC BGA BCH BJG BIJ BIK AGX AGR AHM BDZ BHZ AHS BFV AHC AFT AHJ; simp only [CC, eq_self, implies_true, forall_const]
 have hl := CGQ ⟨h.1, h.2.1, h.2.2.1⟩
 have hk : ∀ {i : Nat}, i < (PU a).length -> 0 <= gD (PU a) i /\ gD (PU a) i < a.g.length := λ hi => hx _ (BQS (BZ hi))
 have hm : ∀ i, (((PU a).take i).map λ i => gD a.g i.toNat).length <= (PU a).length := λ i => by simp; omega
 refine ⟨⟨h.1, h.2.1, h.2.2.1⟩, ⟨default, hl, λ i hi => CMP hi, by rw [hl]⟩, ⟨λ hlt => ⟨⟨by omega, by omega⟩, ⟨hk (by omega), by omega, by omega, by omega, by omega, by omega⟩, ⟨1, [gD a.g (gD (PU a) 0).toNat]⟩, ⟨rfl, rfl, rfl, λ i hi => ?_⟩, ⟨by show 0 < 1; omega, by show 1 <= _; omega, ?_⟩, by show (PU a).length - 1 < _; omega⟩, λ hge => ?_⟩, λ x ⟨x1, x2, x3⟩ => ⟨λ hlt => ⟨⟨by omega, by omega⟩, ⟨hk (by omega), by omega, λ h => (by cases h), ?_, ?_⟩, ⟨x.i + 1, x.l ++ [gD a.g (gD (PU a) x.i).toNat]⟩, ⟨by simp, (CA (by omega)).symm, by simp, BQM _ _⟩, ⟨by show 0 < x.i + 1; omega, by show x.i + 1 <= _; omega, ?_⟩, by show (PU a).length - (x.i + 1) < _; omega⟩, λ hge => ?_⟩⟩
 ·have hi : i < 1 := hi
  rw [show i = 0 by omega]; exact ⟨rfl, rfl, rfl⟩
 ·show [gD a.g (gD (PU a) 0).toNat] = ((PU a).take 1).map _
  rw [EZ (by omega : 0 < (PU a).length)]; rfl
 ·unfold pkM; rw [List.length_map]; omega
 ·have := hm x.i; rw [<- x3] at this; omega
 ·have := hm x.i; rw [<- x3] at this; omega
 ·show x.l ++ _ = ((PU a).take (x.i + 1)).map _
  rw [EZ (by omega : x.i < (PU a).length), List.map_append, x3]; rfl
 ·have : x.l = pkM a := by rw [x3, List.take_of_length_le (by omega)]; rfl
  rw [this]; exact ⟨rfl, Nat.le_refl _, λ _ _ => ⟨rfl, rfl, rfl⟩⟩
theorem CPO : AG Try.prog W6 (C_pk.spec dGPk) := JX C_pk A_pk [] [201] BMF (λ _ => by kernel_rfl) (λ _ => AE) (λ (a : GPk) h => by
 obtain ⟨h1, h2⟩ : (0 <= a.a /\ a.a <= a.b /\ a.b <= a.o.length /\ a.o.length < 1073741824) /\ ∀ x ∈ a.o, 0 <= x /\ x < a.g.length := h
 exact p_pk a h1 h2) (λ _ => KJ rfl rfl) _
end Go.Bal
