/- Package rating: what ties; gaugings that are picked. -/
import Derived.Test.YtoihhodbkimedaaRatR
set_option linter.unusedVariables false
set_option linter.unusedSimpArgs false
namespace Go.Bal
open Go Go.Sym Go.Proofs
def tiedM (a : GK) : Bool := bif (nmM a).2 then !(lineM (nmM a).1).2 else false
def dKt : List AVal -> Heap -> Option (GK × List (Nat × Nat) × List Nat)
 | [x, .bptr id _], H => match dInts x H, H id with
  | some (m, e), .live (.box [.d (.list _ n h _)]) => some (⟨rng n λ i => dGau (h i), m⟩, [(100, id)], e)
  | _, _ => none
 | _, _ => none
def C_kt1 : Ctr := { ro := [100], α := GK, xs := λ a => [.d (eIntsL a.k), .bptr 100 0], L := λ a => [(100, bxG a.g)], val := λ a => .bool (tiedM a), keep := λ a => [(100, .live (bxG a.g))], pre := λ a => [(a.g.length < 1073741824 /\ a.k.length < 1073741824) /\ ∀ g ∈ a.g, okG g] }
def A_kt1 : Ann := { ann 17 [(n_named, C_named.spec dGK), (n_isKnot, C_isKnot.spec dGsK)] with E := [100] }
def V_kt1 (a : GK) : Prop := fnVC Try.prog A_kt1 F_knotted1 (bodyOf F_knotted1) (C_kt1.xs a) (heapOf (C_kt1.L a)) (C_kt1.val a) (C_kt1.keep a) [] []
theorem vc_kt1 (a : GK) : (V_kt1 a) = (((rng a.g.length λ (i : Nat) => gD a.g i).length = a.g.length /\ (∀ (i : Nat), i < (rng a.g.length λ (i : Nat) => gD a.g i).length -> (gD (rng a.g.length λ (i : Nat) => gD a.g
 i) i).st = (gD a.g i).st /\ (gD (rng a.g.length λ (i : Nat) => gD a.g i) i).lo = (gD a.g i).lo /\ (gD (rng a.g.length λ (i : Nat) => gD a.g i) i).hi = (gD a.g i).hi) /\ (rng a.k.length λ (i : Nat) => gD a.k i).length
 = a.k.length /\ (∀ (i : Nat), i < (rng a.k.length λ (i : Nat) => gD a.k i).length -> gD (rng a.k.length λ (i : Nat) => gD a.k i) i = gD a.k i) /\ (rng a.g.length λ (i : Nat) => gD a.g i).length < 1073741824 /\ (rng
 a.k.length λ (i : Nat) => gD a.k i).length < 1073741824) /\ ((nmM (GK.mk (rng a.g.length λ (i : Nat) => gD a.g i) (rng a.k.length λ (i : Nat) => gD a.k i))).snd = true -> (rng (nmM (GK.mk (rng a.g.length λ (i :
 Nat) => gD a.g i) (rng a.k.length λ (i : Nat) => gD a.k i))).fst.length λ (i : Nat) => gD (nmM (GK.mk (rng a.g.length λ (i : Nat) => gD a.g i) (rng a.k.length λ (i : Nat) => gD a.k i))).fst i).length = (nmM
 (GK.mk (rng a.g.length λ (i : Nat) => gD a.g i) (rng a.k.length λ (i : Nat) => gD a.k i))).fst.length /\ (∀ (i : Nat), i < (rng (nmM (GK.mk (rng a.g.length λ (i : Nat) => gD a.g i) (rng a.k.length λ (i : Nat) =>
 gD a.k i))).fst.length λ (i : Nat) => gD (nmM (GK.mk (rng a.g.length λ (i : Nat) => gD a.g i) (rng a.k.length λ (i : Nat) => gD a.k i))).fst i).length -> (gD (rng (nmM (GK.mk (rng a.g.length λ (i : Nat) => gD a.g
 i) (rng a.k.length λ (i : Nat) => gD a.k i))).fst.length λ (i : Nat) => gD (nmM (GK.mk (rng a.g.length λ (i : Nat) => gD a.g i) (rng a.k.length λ (i : Nat) => gD a.k i))).fst i) i).st = (gD (nmM (GK.mk (rng
 a.g.length λ (i : Nat) => gD a.g i) (rng a.k.length λ (i : Nat) => gD a.k i))).fst i).st /\ (gD (rng (nmM (GK.mk (rng a.g.length λ (i : Nat) => gD a.g i) (rng a.k.length λ (i : Nat) => gD a.k i))).fst.length fun
 (i : Nat) => gD (nmM (GK.mk (rng a.g.length λ (i : Nat) => gD a.g i) (rng a.k.length λ (i : Nat) => gD a.k i))).fst i) i).lo = (gD (nmM (GK.mk (rng a.g.length λ (i : Nat) => gD a.g i) (rng a.k.length λ (i : Nat)
 => gD a.k i))).fst i).lo /\ (gD (rng (nmM (GK.mk (rng a.g.length λ (i : Nat) => gD a.g i) (rng a.k.length λ (i : Nat) => gD a.k i))).fst.length λ (i : Nat) => gD (nmM (GK.mk (rng a.g.length λ (i : Nat) => gD a.g
 i) (rng a.k.length λ (i : Nat) => gD a.k i))).fst i) i).hi = (gD (nmM (GK.mk (rng a.g.length λ (i : Nat) => gD a.g i) (rng a.k.length λ (i : Nat) => gD a.k i))).fst i).hi) /\ (rng (nmM (GK.mk (rng a.g.length λ (i
 : Nat) => gD a.g i) (rng a.k.length λ (i : Nat) => gD a.k i))).fst.length λ (i : Nat) => gD (nmM (GK.mk (rng a.g.length λ (i : Nat) => gD a.g i) (rng a.k.length λ (i : Nat) => gD a.k i))).fst i).length <
 1073741824 /\ ∀ (g : Gau), List.Mem g (rng (nmM (GK.mk (rng a.g.length λ (i : Nat) => gD a.g i) (rng a.k.length λ (i : Nat) => gD a.k i))).fst.length λ (i : Nat) => gD (nmM (GK.mk (rng a.g.length λ (i : Nat) => gD
 a.g i) (rng a.k.length λ (i : Nat) => gD a.k i))).fst i) -> 0 <= g.st /\ g.st <= 2000 /\ 0 <= g.lo /\ g.lo <= g.hi /\ g.hi <= 200000) /\ (tiedM a = bif (nmM (GK.mk (rng a.g.length λ (i : Nat) => gD a.g i) (rng a.k.length λ (i
 : Nat) => gD a.k i))).snd then !(lineM (rng (nmM (GK.mk (rng a.g.length λ (i : Nat) => gD a.g i) (rng a.k.length λ (i : Nat) => gD a.k i))).fst.length λ (i : Nat) => gD (nmM (GK.mk (rng a.g.length λ (i : Nat) =>
 gD a.g i) (rng a.k.length λ (i : Nat) => gD a.k i))).fst i)).snd else false) /\ a.g.length = a.g.length /\ ∀ (i : Nat), i < a.g.length -> (gD a.g i).st = (gD a.g i).st /\ (gD a.g i).lo = (gD a.g i).lo /\ (gD a.g i).hi = (gD
 a.g i).hi) := by kernel_rfl
def knt3 (g : List Gau) (a b : Int) : List Int -> Option (List Int)
 | [] => none
 | c :: cs => bif tiedM ⟨g, [a, b, c]⟩ then some [a, b, c] else knt3 g a b cs
def orO (x y : Option (List Int)) : Option (List Int) := match x with
 | some z => some z
 | none => y
def knt2 (g : List Gau) (a : Int) : List Int -> Option (List Int)
 | [] => none
 | b :: cs => bif tiedM ⟨g, [a, b]⟩ then some [a, b] else orO (knt3 g a b cs) (knt2 g a cs)
def knt1 (g : List Gau) : List Int -> Option (List Int)
 | [] => none
 | a :: bs => orO (knt2 g a bs) (knt1 g bs)
def kntM (a : GK) : List Int := (knt1 a.g a.k).getD []
structure IJK where
 i : Nat
 j : Nat
 k : Nat
 deriving Inhabited
structure IJ2 where
 i : Nat
 j : Nat
 deriving Inhabited
def kdS (a : GK) (i : Nat) : List (Nat × AVal) := [(1, .d (eIntsL a.k)), (5, .fn (.func n_knotted1) [] [.bptr 1000 0]), (13, .d (eIntsL a.k)), (14, .int a.k.length), (15, .int i)]
def kdT (a : GK) (i j : Nat) : List (Nat × AVal) := kdS a i ++ [(6, .int i), (7, .int (gD a.k i)), (23, .d (eIntsL (a.k.drop (i + 1)))), (24, .int (a.k.drop (i + 1)).length), (25, .int j)]
def kdH (a : GK) : List (Nat × HCell) := [(1000, .live (bxG a.g))]
def kd3 (a : GK) : Shape := { α := Nat, dflt := 0, T := λ i => ⟨kdS a i, kdH a⟩, inv := λ i => i <= a.k.length /\ knt1 a.g a.k = knt1 a.g (a.k.drop i), meas := λ i => a.k.length - i }
def kd6 (a : GK) (m : Nat) : Shape := { α := IJ2, dflt := default, T := λ x => ⟨kdT a x.i x.j, kdH a⟩, inv := λ x => a.k.length - x.i = m /\ x.i < a.k.length /\ x.j <= (a.k.drop (x.i + 1)).length /\ knt1 a.g a.k = orO (knt2 a.g (gD a.k x.i) ((a.k.drop (x.i + 1)).drop x.j)) (knt1 a.g (a.k.drop (x.i + 1))), meas := λ x => (a.k.drop (x.i + 1)).length - x.j }
def kd11 (a : GK) (m q : Nat) : Shape := { α := IJK, dflt := default, T := λ x => ⟨kdT a x.i x.j ++ [(9, .int (gD (a.k.drop (x.i + 1)) x.j)), (43, .d (eIntsL (a.k.drop (x.i + x.j + 2)))), (44, .int (a.k.drop (x.i + x.j + 2)).length), (45, .int x.k)], kdH a⟩, inv := λ x => a.k.length - x.i = m /\ x.i < a.k.length /\ (a.k.drop (x.i + 1)).length - x.j = q /\ x.j < (a.k.drop (x.i + 1)).length /\ x.k <= (a.k.drop (x.i + x.j + 2)).length /\ knt1 a.g a.k = orO (orO (knt3 a.g (gD a.k x.i) (gD (a.k.drop (x.i + 1)) x.j) ((a.k.drop (x.i + x.j + 2)).drop x.k)) (knt2 a.g (gD a.k x.i) (a.k.drop (x.i + x.j + 2)))) (knt1 a.g (a.k.drop (x.i + 1))), meas := λ x => (a.k.drop (x.i + x.j + 2)).length - x.k }
def C_kd : Ctr := { α := GK, xs := xGK, L := λ _ => [], val := λ a => .d (eIntsL (kntM a)), keep := λ _ => [], pre := λ a => [(a.g.length < 1073741824 /\ a.k.length < 1073741824) /\ ∀ g ∈ a.g, okG g] }
def A_kd (a : GK) : Ann := { ann 62 [(n_knotted1, C_kt1.spec dKt)] with md := λ id => if id = 8 then some (λ k => if k = 3 then 4 else 0) else if id = 9 then some (λ k => if k = 2 then 4 else 0) else if id = 13 then some (λ k => if k = 4 then 4 else 0) else if id = 14 then some (λ k => if k = 3 then 4 else 0) else none, loops := λ id => if id = 3 then some [kd3 a] else none, inner := λ gs id => if id = 6 then some [kd6 a (gs.getD 0 0)] else if id = 11 then some [kd11 a (gs.getD 1 0) (gs.getD 0 0)] else none }
def V_kd (a : GK) : Prop := fnVC Try.prog (A_kd a) F_knotted (bodyOf F_knotted) (xGK a) (heapOf []) (C_kd.val a) [] [] []
abbrev z_kd_0 (a : GK) : Prop := a.k.length = a.k.length
abbrev z_kd_1 (a : GK) : Prop := ∀ (i : Nat), i < a.k.length -> gD a.k i = gD a.k i
abbrev z_kd_2 (a : GK) : Prop := (↑a.k.length : Int) = (↑a.k.length : Int)
abbrev z_kd_3 (a : GK) : Prop := a.g.length = a.g.length /\ ∀ (i : Nat), i < a.g.length -> (gD a.g i).st = (gD a.g i).st /\ (gD a.g i).lo = (gD a.g i).lo /\ (gD a.g i).hi = (gD a.g i).hi
abbrev z_kd_4 (a : Nat) (a1 : GK) : Prop := a <= a1.k.length /\ knt1 a1.g a1.k = knt1 a1.g (List.drop a a1.k)
abbrev z_kd_5 (a : Nat) (a1 : GK) : Prop := (↑a : Int) < (↑a1.k.length : Int)
abbrev z_kd_6 (a : Nat) : Int := IntKind.i64.wrap ((↑a : Int) + 1)
abbrev z_kd_7 (a : GK) : Prop := (↑a.k.length : Int) <= (↑a.k.length : Int)
abbrev z_kd_8 (a : IJ2) (a1 : Nat) : Prop := (↑a.i : Int) = (↑a1 : Int)
abbrev z_kd_9 (a : IJ2) (a1 : GK) : List Int := List.drop (a.i + 1) a1.k
abbrev z_kd_10 (a : IJ2) (a1 : GK) : Nat := (z_kd_9 a a1).length
abbrev z_kd_11 (a : Nat) : Nat := (z_kd_6 a).toNat
abbrev z_kd_12 (a : GK) (a1 : Nat) : Nat := a.k.length - z_kd_11 a1
abbrev z_kd_13 (i : Nat) (a : IJ2) (a1 : GK) : Prop := i < z_kd_10 a a1
abbrev z_kd_14 (a : IJ2) (a1 : GK) (i : Nat) : Int := gD (z_kd_9 a a1) i
abbrev z_kd_15 (a : GK) (a1 : Nat) : Nat := a.k.length - a1
abbrev z_kd_16 (a : GK) (a1 : IJ2) (a2 : Nat) : Prop := a.k.length - a1.i = z_kd_15 a a2 /\ a1.i < a.k.length /\ a1.j <= z_kd_10 a1 a /\ knt1 a.g a.k = orO (knt2 a.g (gD a.k a1.i) (List.drop a1.j (z_kd_9 a1 a))) (knt1 a.g
 (z_kd_9 a1 a))
abbrev z_kd_17 (a : IJ2) (a1 : GK) : Prop := (↑a.j : Int) < (↑(z_kd_10 a a1) : Int)
abbrev z_kd_18 (i : Nat) : Bool := decide (i = 0)
abbrev z_kd_19 (a : IJ2) (a1 : GK) : Int := gD (z_kd_9 a a1) a.j
abbrev z_kd_20 (i : Nat) (a : GK) (a1 : IJ2) : Int := bif z_kd_18 i then gD a.k a1.i else z_kd_19 a1 a
abbrev z_kd_21 (a : GK) (a1 : IJ2) : List Int := rng 2 λ (i : Nat) => z_kd_20 i a a1
abbrev z_kd_22 (a : GK) (a1 : IJ2) : Nat := (z_kd_21 a a1).length
abbrev z_kd_23 (a : GK) : List Gau := rng a.g.length λ (i : Nat) => gD a.g i
abbrev z_kd_24 (a : GK) : Nat := (z_kd_23 a).length
abbrev z_kd_25 (a : GK) : Prop := z_kd_24 a = a.g.length
abbrev z_kd_26 (a : GK) (i : Nat) : Gau := gD (z_kd_23 a) i
abbrev z_kd_27 (a : GK) (i : Nat) : Int := (z_kd_26 a i).st
abbrev z_kd_28 (a : GK) (i : Nat) : Int := (z_kd_26 a i).lo
abbrev z_kd_29 (a : GK) (i : Nat) : Int := (z_kd_26 a i).hi
abbrev z_kd_30 (a : GK) : Prop := ∀ (i : Nat), i < z_kd_24 a -> z_kd_27 a i = (gD a.g i).st /\ z_kd_28 a i = (gD a.g i).lo /\ z_kd_29 a i = (gD a.g i).hi
abbrev z_kd_31 (a : GK) : Prop := a.g.length = z_kd_24 a
abbrev z_kd_32 (a : GK) : Prop := ∀ (i : Nat), i < a.g.length -> (gD a.g i).st = z_kd_27 a i /\ (gD a.g i).lo = z_kd_28 a i /\ (gD a.g i).hi = z_kd_29 a i
abbrev z_kd_33 (a : GK) : Prop := z_kd_24 a < 1073741824
abbrev z_kd_34 (a : GK) : Prop := ∀ (g : Gau), List.Mem g (z_kd_23 a) -> 0 <= g.st /\ g.st <= 2000 /\ 0 <= g.lo /\ g.lo <= g.hi /\ g.hi <= 200000
abbrev z_kd_35 (a : IJ2) : Int := IntKind.i64.wrap (IntKind.i64.wrap ((↑a.i : Int) + (↑a.j : Int)) + 2)
abbrev z_kd_36 (a : IJK) (a1 : IJ2) : Prop := (↑a.i : Int) = (↑a1.i : Int)
abbrev z_kd_37 (a : IJK) (a1 : GK) : List Int := List.drop (a.i + 1) a1.k
abbrev z_kd_38 (a : IJK) (a1 : GK) : Nat := (z_kd_37 a a1).length
abbrev z_kd_39 (i : Nat) (a : IJK) (a1 : GK) : Prop := i < z_kd_38 a a1
abbrev z_kd_40 (a : IJK) (a1 : GK) (i : Nat) : Int := gD (z_kd_37 a a1) i
abbrev z_kd_41 (a : IJK) (a1 : GK) : Int := gD (z_kd_37 a a1) a.j
abbrev z_kd_42 (a : IJK) (a1 : GK) : List Int := List.drop (a.i + a.j + 2) a1.k
abbrev z_kd_43 (a : IJK) (a1 : GK) : Nat := (z_kd_42 a a1).length
abbrev z_kd_44 (a : IJ2) : Nat := (z_kd_35 a).toNat
abbrev z_kd_45 (a : GK) (a1 : IJ2) : Nat := a.k.length - z_kd_44 a1
abbrev z_kd_46 (i : Nat) (a : IJK) (a1 : GK) : Prop := i < z_kd_43 a a1
abbrev z_kd_47 (a : IJK) (a1 : GK) (i : Nat) : Int := gD (z_kd_42 a a1) i
abbrev z_kd_48 (a : IJ2) (a1 : GK) : Nat := z_kd_10 a a1 - a.j
abbrev z_kd_49 (a : GK) (a1 : IJK) (a2 : Nat) (a3 : IJ2) : Prop := a.k.length - a1.i = z_kd_15 a a2 /\ a1.i < a.k.length /\ z_kd_38 a1 a - a1.j = z_kd_48 a3 a /\ a1.j < z_kd_38 a1 a /\ a1.k <= z_kd_43 a1 a /\ knt1 a.g a.k =
 orO (orO (knt3 a.g (gD a.k a1.i) (z_kd_41 a1 a) (List.drop a1.k (z_kd_42 a1 a))) (knt2 a.g (gD a.k a1.i) (z_kd_42 a1 a))) (knt1 a.g (z_kd_37 a1 a))
abbrev z_kd_50 (a : IJK) (a1 : GK) : Prop := (↑a.k : Int) < (↑(z_kd_43 a a1) : Int)
abbrev z_kd_51 (i : Nat) (a : GK) (a1 : IJK) : Int := bif z_kd_18 i then gD a.k a1.i else bif decide (i - 1 = 0) then z_kd_41 a1 a else gD (z_kd_42 a1 a) a1.k
abbrev z_kd_52 (a : GK) (a1 : IJK) : List Int := rng 3 λ (i : Nat) => z_kd_51 i a a1
abbrev z_kd_53 (a : GK) (a1 : IJK) : Nat := (z_kd_52 a a1).length
abbrev z_kd_54 (a : IJK) (a1 : IJK) : Prop := (↑a.i : Int) = (↑a1.i : Int)
abbrev z_kd_55 (a : IJK) (a1 : GK) : Nat := z_kd_43 a a1 - a.k
abbrev z_kd_56 (a : IJ2) (a1 : IJK) : Prop := (↑a.i : Int) = (↑a1.i : Int)
abbrev z_kd_57 (a : GK) : Prop := (kntM a).length = 0
theorem vc_kd (a : GK) : (V_kd a) = ((∃ (a_1 : Nat), (z_kd_0 a /\ z_kd_1 a /\ z_kd_0 a /\ z_kd_1 a /\ z_kd_2 a /\ (↑a_1 : Int) = 0 /\ z_kd_3 a) /\ z_kd_4 a_1 a) /\ ∀ (a_1 : Nat), z_kd_4 a_1 a -> bif decide (z_kd_5 a_1 a) then (0
 <= (↑a_1 : Int) /\ z_kd_5 a_1 a) /\ (0 <= z_kd_6 a_1 /\ z_kd_6 a_1 <= (↑a.k.length : Int) /\ z_kd_7 a) /\ (∃ (a_3 : IJ2), (z_kd_0 a /\ z_kd_1 a /\ z_kd_0 a /\ z_kd_1 a /\ z_kd_2 a /\ z_kd_8 a_3 a_1 /\ z_kd_8 a_3 a_1 /\ gD a.k a_3.i =
 gD a.k a_1 /\ z_kd_10 a_3 a = z_kd_12 a a_1 /\ (∀ (i : Nat), z_kd_13 i a_3 a -> z_kd_14 a_3 a i = gD a.k (z_kd_11 a_1 + i)) /\ (↑(z_kd_10 a_3 a) : Int) = (↑(z_kd_12 a a_1) : Int) /\ (↑a_3.j : Int) = 0 /\ z_kd_3 a) /\ z_kd_16 a
 a_3 a_1) /\ ∀ (a_3 : IJ2), z_kd_16 a a_3 a_1 -> bif decide (z_kd_17 a_3 a) then (0 <= (↑a_3.j : Int) /\ z_kd_17 a_3 a) /\ (z_kd_22 a a_3 = 2 /\ (∀ (i : Nat), i < z_kd_22 a a_3 -> gD (z_kd_21 a a_3) i = z_kd_20 i a a_3) /\
 z_kd_25 a /\ z_kd_30 a /\ z_kd_31 a /\ z_kd_32 a /\ (z_kd_33 a /\ z_kd_22 a a_3 < 1073741824) /\ z_kd_34 a) /\ bif tiedM (GK.mk (z_kd_23 a) (z_kd_21 a a_3)) then (kntM a).length = 2 /\ ∀ (i : Nat), i < (kntM a).length -> gD (kntM
 a) i = z_kd_20 i a a_3 else (0 <= z_kd_35 a_3 /\ z_kd_35 a_3 <= (↑a.k.length : Int) /\ z_kd_7 a) /\ (∃ (a_5 : IJK), (z_kd_0 a /\ z_kd_1 a /\ z_kd_0 a /\ z_kd_1 a /\ z_kd_2 a /\ z_kd_36 a_5 a_3 /\ z_kd_36 a_5 a_3 /\ gD a.k a_5.i = gD
 a.k a_3.i /\ z_kd_38 a_5 a = z_kd_10 a_3 a /\ (∀ (i : Nat), z_kd_39 i a_5 a -> z_kd_40 a_5 a i = z_kd_14 a_3 a i) /\ (↑(z_kd_38 a_5 a) : Int) = (↑(z_kd_10 a_3 a) : Int) /\ (↑a_5.j : Int) = (↑a_3.j : Int) /\ z_kd_41 a_5 a =
 z_kd_19 a_3 a /\ z_kd_43 a_5 a = z_kd_45 a a_3 /\ (∀ (i : Nat), z_kd_46 i a_5 a -> z_kd_47 a_5 a i = gD a.k (z_kd_44 a_3 + i)) /\ (↑(z_kd_43 a_5 a) : Int) = (↑(z_kd_45 a a_3) : Int) /\ (↑a_5.k : Int) = 0 /\ z_kd_3 a) /\ z_kd_49
 a a_5 a_1 a_3) /\ ∀ (a_5 : IJK), z_kd_49 a a_5 a_1 a_3 -> bif decide (z_kd_50 a_5 a) then (0 <= (↑a_5.k : Int) /\ z_kd_50 a_5 a) /\ (z_kd_53 a a_5 = 3 /\ (∀ (i : Nat), i < z_kd_53 a a_5 -> gD (z_kd_52 a a_5) i = z_kd_51 i a
 a_5) /\ z_kd_25 a /\ z_kd_30 a /\ z_kd_31 a /\ z_kd_32 a /\ (z_kd_33 a /\ z_kd_53 a a_5 < 1073741824) /\ z_kd_34 a) /\ bif tiedM (GK.mk (z_kd_23 a) (z_kd_52 a a_5)) then (kntM a).length = 3 /\ ∀ (i : Nat), i < (kntM a).length ->
 gD (kntM a) i = z_kd_51 i a a_5 else ∃ (a_7 : IJK), (z_kd_0 a /\ z_kd_1 a /\ z_kd_0 a /\ z_kd_1 a /\ z_kd_2 a /\ z_kd_54 a_7 a_5 /\ z_kd_54 a_7 a_5 /\ gD a.k a_7.i = gD a.k a_5.i /\ z_kd_38 a_7 a = z_kd_38 a_5 a /\ (∀ (i : Nat),
 z_kd_39 i a_7 a -> z_kd_40 a_7 a i = z_kd_40 a_5 a i) /\ (↑(z_kd_38 a_7 a) : Int) = (↑(z_kd_38 a_5 a) : Int) /\ (↑a_7.j : Int) = (↑a_5.j : Int) /\ z_kd_41 a_7 a = z_kd_41 a_5 a /\ z_kd_43 a_7 a = z_kd_43 a_5 a /\ (∀ (i : Nat),
 z_kd_46 i a_7 a -> z_kd_47 a_7 a i = z_kd_47 a_5 a i) /\ (↑(z_kd_43 a_7 a) : Int) = (↑(z_kd_43 a_5 a) : Int) /\ (↑a_7.k : Int) = IntKind.i64.wrap ((↑a_5.k : Int) + 1) /\ z_kd_3 a) /\ z_kd_49 a a_7 a_1 a_3 /\ z_kd_55 a_7 a <
 z_kd_55 a_5 a else ∃ (a_7 : IJ2), (z_kd_0 a /\ z_kd_1 a /\ z_kd_0 a /\ z_kd_1 a /\ z_kd_2 a /\ z_kd_56 a_7 a_5 /\ z_kd_56 a_7 a_5 /\ gD a.k a_7.i = gD a.k a_5.i /\ z_kd_10 a_7 a = z_kd_38 a_5 a /\ (∀ (i : Nat), z_kd_13 i a_7 a ->
 z_kd_14 a_7 a i = z_kd_40 a_5 a i) /\ (↑(z_kd_10 a_7 a) : Int) = (↑(z_kd_38 a_5 a) : Int) /\ (↑a_7.j : Int) = IntKind.i64.wrap ((↑a_5.j : Int) + 1) /\ z_kd_3 a) /\ z_kd_16 a a_7 a_1 /\ z_kd_48 a_7 a < z_kd_48 a_3 a else ∃
 (a_5 : Nat), (z_kd_0 a /\ z_kd_1 a /\ z_kd_0 a /\ z_kd_1 a /\ z_kd_2 a /\ (↑a_5 : Int) = IntKind.i64.wrap ((↑a_3.i : Int) + 1) /\ z_kd_3 a) /\ z_kd_4 a_5 a /\ z_kd_15 a a_5 < z_kd_15 a a_1 else z_kd_57 a /\ z_kd_57 a) := by
 kernel_rfl
structure GPk where
 g : List Gau
 o : List Int
 a : Int
 b : Int
def dGPk : List AVal -> Heap -> Option (GPk × List (Nat × Nat) × List Nat)
 | [.d x, .d y, .bptr c _, .bptr id _], H => match H id, H c with
  | .live (.box [.d (.list _ n h _)]), .live (.box [.d (.list _ m r _)]) => some (⟨rng n λ i => dGau (h i), rng m λ i => dInt (r i), dInt x, dInt y⟩, [(100, id), (101, c)], [])
  | _, _ => none
 | _, _ => none
def pkL (a : GPk) : List Int := (a.o.take a.b.toNat).drop a.a.toNat
def pkM (a : GPk) : List Gau := (pkL a).map λ i => gD a.g i.toNat
def pkH (a : GPk) : List (Nat × HCell) := [(101, .live (.box [.d (eIntsL a.o)])), (100, .live (bxG a.g))]
def pk3n (a : GPk) : Shape := { α := One, dflt := default, T := λ _ => ⟨[(3, .bptr 100 0), (7, .d nilL), (13, .d (eIntsL (pkL a))), (14, .int (pkL a).length), (15, .int 0)], pkH a⟩, inv := λ _ => True, meas := λ _ => (pkL a).length + 1 }
def pk3o (a : GPk) : Shape := { α := GsK, dflt := default, T := λ x => ⟨[(3, .bptr 100 0), (7, .own 201 3 0 x.l.length), (13, .d (eIntsL (pkL a))), (14, .int (pkL a).length), (15, .int x.i)], pkH a ++ [(201, .live (rowG x.l))]⟩, inv := λ x => 1 <= x.i /\ x.i <= (pkL a).length /\ x.l = ((pkL a).take x.i).map λ i => gD a.g i.toNat, meas := λ x => (pkL a).length - x.i, again := [(201, 6096)] }
def C_pk : Ctr := { ro := [100, 101], α := GPk, xs := λ a => [.int a.a, .int a.b, .bptr 101 0, .bptr 100 0], L := λ a => [(101, .box [.d (eIntsL a.o)]), (100, bxG a.g)], val := λ a => .d (eGaus (pkM a)), keep := pkH, pre := λ a => [(0 <= a.a /\ a.a <= a.b /\ a.b <= a.o.length /\ a.o.length < 1073741824) /\ ∀ x ∈ a.o, 0 <= x /\ x < a.g.length] }
def A_pk (a : GPk) : Ann := { ann 28 [] with E := [101, 100], mt := λ id => id == 5, loops := λ id => if id = 3 then some [pk3n a, pk3o a] else none }
def V_pk (a : GPk) : Prop := fnVC Try.prog (A_pk a) F_fewest2 (bodyOf F_fewest2) (C_pk.xs a) (heapOf (C_pk.L a)) (C_pk.val a) (C_pk.keep a) [] [201]
abbrev z_pk_0 : Prop := (0 : Nat) = (0 : Nat)
abbrev z_pk_1 (a : GPk) : Nat := a.b.toNat - a.a.toNat
abbrev z_pk_2 (a : GPk) : Prop := a.o.length = a.o.length
abbrev z_pk_3 (a : GPk) : Prop := ∀ (i : Nat), i < a.o.length -> gD a.o i = gD a.o i
abbrev z_pk_4 (a : GPk) : Prop := a.g.length = a.g.length
abbrev z_pk_5 (a : GPk) : Prop := ∀ (i : Nat), i < a.g.length -> (gD a.g i).st = (gD a.g i).st /\ (gD a.g i).lo = (gD a.g i).lo /\ (gD a.g i).hi = (gD a.g i).hi
abbrev z_pk_6 (a : GPk) : Prop := z_pk_2 a /\ z_pk_3 a /\ z_pk_4 a /\ z_pk_5 a
abbrev z_pk_7 (a : GPk) : Prop := (0 : Int) < (↑(pkL a).length : Int)
abbrev z_pk_8 (a : GPk) : Int := gD (pkL a) (0 : Nat)
abbrev z_pk_9 : Prop := (0 : Nat) < (1 : Nat)
abbrev z_pk_10 : Prop := (3 : Nat) = (3 : Nat)
abbrev z_pk_11 : Prop := (1 : Nat) <= (1 : Nat) /\ (z_pk_9 -> z_pk_10)
abbrev z_pk_12 (a : GsK) : Prop := a.l.length = (1 : Nat)
abbrev z_pk_13 (a : GPk) : Prop := (pkL a).length = (pkL a).length
abbrev z_pk_14 (a : GPk) : Prop := ∀ (i : Nat), i < (pkL a).length -> gD (pkL a) i = gD (pkL a) i
abbrev z_pk_15 (a : GPk) : Prop := (↑(pkL a).length : Int) = (↑(pkL a).length : Int)
abbrev z_pk_16 (a : GPk) : Gau := gD a.g (gD (pkL a) (Int.toNat (0 : Int))).toNat
abbrev z_pk_17 (a : GsK) (a1 : GPk) : Prop := (1 : Nat) <= a.i /\ a.i <= (pkL a1).length /\ a.l = List.map (λ (i : Int) => gD a1.g i.toNat) (List.take a.i (pkL a1))
abbrev z_pk_18 (a : GPk) (a1 : GsK) : Nat := (pkL a).length - a1.i
abbrev z_pk_19 (a : GPk) : Prop := (pkM a).length = (0 : Nat)
abbrev z_pk_20 (a : GsK) (a1 : GPk) : Prop := (↑a.i : Int) < (↑(pkL a1).length : Int)
abbrev z_pk_21 (a : GsK) : Nat := a.l.length + (1 : Nat)
abbrev z_pk_22 (a : GsK) (a1 : GsK) : Prop := a.l.length = z_pk_21 a1
abbrev z_pk_23 (i : Nat) (a : GsK) : Bool := decide (i < a.l.length)
abbrev z_pk_24 (a : GPk) (a1 : GsK) : Gau := gD a.g (gD (pkL a) a1.i).toNat
abbrev z_pk_25 (a : GsK) (j : Nat) : Gau := gD a.l ((0 : Nat) + j)
theorem vc_pk (a : GPk) : (V_pk a) = (((0 : Int) <= a.a /\ a.a <= a.b /\ a.b <= (↑a.o.length : Int)) /\ (∃ (a_1 : One), (z_pk_0 /\ (∀ (i : Nat), i < (0 : Nat) -> false = false) /\ (pkL a).length = z_pk_1 a /\ (∀ (i : Nat), i <
 (pkL a).length -> gD (pkL a) i = gD a.o (a.a.toNat + i)) /\ (↑(pkL a).length : Int) = (↑(z_pk_1 a) : Int) /\ Int.ofNat (0 : Nat) = Int.ofNat (0 : Nat) /\ z_pk_6 a) /\ True) /\ (∀ (a_1 : One), True -> bif decide (z_pk_7 a) then
 ((0 : Int) <= (0 : Int) /\ z_pk_7 a) /\ (((0 : Int) <= z_pk_8 a /\ z_pk_8 a < (↑a.g.length : Int)) /\ (True /\ ((0 : Nat) < (0 : Nat) -> (0 : Nat) = (3 : Nat))) /\ z_pk_11 /\ (true = true -> z_pk_9) /\ (1 : Nat) <=
 (9223372036854775807 : Nat) /\ (24 : Nat) <= (140737488355328 : Nat)) /\ ∃ (a_3 : GsK), (z_pk_0 /\ z_pk_12 a_3 /\ z_pk_13 a /\ z_pk_14 a /\ z_pk_15 a /\ (↑a_3.i : Int) = IntKind.i64.wrap ((0 : Int) + (1 : Int)) /\ z_pk_2 a /\
 z_pk_3 a /\ z_pk_4 a /\ z_pk_5 a /\ z_pk_12 a_3 /\ ∀ (i : Nat), i < a_3.l.length -> (gD a_3.l i).st = (z_pk_16 a).st /\ (gD a_3.l i).lo = (z_pk_16 a).lo /\ (gD a_3.l i).hi = (z_pk_16 a).hi) /\ z_pk_17 a_3 a /\ z_pk_18 a a_3 <
 (pkL a).length + (1 : Nat) else z_pk_19 a /\ z_pk_19 a /\ z_pk_6 a) /\ ∀ (a_1 : GsK), z_pk_17 a_1 a -> bif decide (z_pk_20 a_1 a) then ((0 : Int) <= (↑a_1.i : Int) /\ z_pk_20 a_1 a) /\ (((0 : Int) <= gD (pkL a) a_1.i /\ gD (pkL
 a) a_1.i < (↑a.g.length : Int)) /\ (a_1.l.length = a_1.l.length /\ ((0 : Nat) < a_1.l.length -> z_pk_10)) /\ z_pk_11 /\ (false = true -> z_pk_9) /\ z_pk_21 a_1 <= (9223372036854775807 : Nat) /\ z_pk_21 a_1 * (24 : Nat) <=
 (140737488355328 : Nat)) /\ ∃ (a_3 : GsK), (z_pk_0 /\ z_pk_22 a_3 a_1 /\ z_pk_13 a /\ z_pk_14 a /\ z_pk_15 a /\ (↑a_3.i : Int) = IntKind.i64.wrap ((↑a_1.i : Int) + (1 : Int)) /\ z_pk_2 a /\ z_pk_3 a /\ z_pk_4 a /\ z_pk_5 a /\
 z_pk_22 a_3 a_1 /\ ∀ (i : Nat), i < a_3.l.length -> ((gD a_3.l i).st = bif z_pk_23 i a_1 then (gD a_1.l i).st else (z_pk_24 a a_1).st) /\ ((gD a_3.l i).lo = bif z_pk_23 i a_1 then (gD a_1.l i).lo else (z_pk_24 a a_1).lo) /\
 (gD a_3.l i).hi = bif z_pk_23 i a_1 then (gD a_1.l i).hi else (z_pk_24 a a_1).hi) /\ z_pk_17 a_3 a /\ z_pk_18 a a_3 < z_pk_18 a a_1 else (pkM a).length = a_1.l.length /\ (0 : Nat) + a_1.l.length <= a_1.l.length /\ (∀ (j :
 Nat), j < (pkM a).length -> (gD (pkM a) j).st = (z_pk_25 a_1 j).st /\ (gD (pkM a) j).lo = (z_pk_25 a_1 j).lo /\ (gD (pkM a) j).hi = (z_pk_25 a_1 j).hi) /\ z_pk_6 a) := by kernel_rfl
theorem ok_kt1 : SpecOk Try.prog n_knotted1 (C_kt1.spec dKt) := okC C_kt1 (λ _ => A_kt1) [] [] fn_knotted1 (λ _ => by kernel_rfl) (λ _ => gok_cons ok_named (gok_cons ok_isKnot gok_nil)) (λ (a : GK) h => by
 show V_kt1 a; rw [vc_kt1]; simp only [condP, eq_self, implies_true, and_self, true_and, and_true, true_implies, forall_const, decide_eq_true_eq, decide_eq_false_iff_not, Int.toNat_natCast, dSpan_eSpan, dInt_eInt, dGau_e, dPt_e, dLn_e, dRt_e, Nat.zero_add, Int.zero_sub, Nat.le_eq, Nat.succ_eq_add_one, Nat.add_one_le_iff, Bool.not_eq_true', Bool.not_eq_false', rng_length, dSpan_mk, rng_getD]
 obtain ⟨⟨h1, h2⟩, h3⟩ : (a.g.length < 1073741824 /\ a.k.length < 1073741824) /\ ∀ g ∈ a.g, okG g := h
 exact ⟨⟨h1, h2⟩, λ _ => nm_okG h3 h1, rfl⟩) (λ _ => noI rfl rfl) _
theorem drop_c {l : List Int} {i : Nat} (h : i < l.length) : l.drop i = gD l i :: l.drop (i + 1) := by
 rw [List.drop_eq_getElem_cons h]; simp [gD, List.getD_eq_getElem?_getD, h]
theorem gD_drop (l : List Int) (i j : Nat) : gD (l.drop i) j = gD l (i + j) := by
 simp [gD, List.getD_eq_getElem?_getD]
theorem rng2 (a b : Int) : (rng 2 λ i => bif decide (i = 0) then a else b) = [a, b] := rfl
theorem rng3 (a b c : Int) : (rng 3 λ i => bif decide (i = 0) then a else bif decide (i - 1 = 0) then b else c) = [a, b, c] := rfl
theorem all2 (a b : Int) : ∀ i, i < 2 -> gD [a, b] i = bif decide (i = 0) then a else b := λ i hi => by
 match i, hi with
 | 0, _ => rfl
 | 1, _ => rfl
theorem all3 (a b c : Int) : ∀ i, i < 3 -> gD [a, b, c] i = bif decide (i = 0) then a else bif decide (i - 1 = 0) then b else c := λ i hi => by
 match i, hi with
 | 0, _ => rfl
 | 1, _ => rfl
 | 2, _ => rfl
theorem knt1_c (g : List Gau) (a : Int) (bs : List Int) : knt1 g (a :: bs) = orO (knt2 g a bs) (knt1 g bs) := rfl
theorem knt2_c (g : List Gau) (a b : Int) (cs : List Int) : knt2 g a (b :: cs) = bif tiedM ⟨g, [a, b]⟩ then some [a, b] else orO (knt3 g a b cs) (knt2 g a cs) := rfl
theorem knt3_c (g : List Gau) (a b c : Int) (cs : List Int) : knt3 g a b (c :: cs) = bif tiedM ⟨g, [a, b, c]⟩ then some [a, b, c] else knt3 g a b cs := rfl
theorem p_kd (a : GK) (h1 : a.g.length < 1073741824) (h2 : a.k.length < 1073741824) (h3 : ∀ g ∈ a.g, okG g) : V_kd a := by
 rw [vc_kd]; delta z_kd_0 z_kd_1 z_kd_2 z_kd_3 z_kd_4 z_kd_5 z_kd_6 z_kd_7 z_kd_8 z_kd_9 z_kd_10 z_kd_11 z_kd_12 z_kd_13 z_kd_14 z_kd_15 z_kd_16 z_kd_17 z_kd_18 z_kd_19 z_kd_20 z_kd_21 z_kd_22 z_kd_23 z_kd_24 z_kd_25 z_kd_26 z_kd_27 z_kd_28 z_kd_29 z_kd_30 z_kd_31 z_kd_32 z_kd_33 z_kd_34 z_kd_35 z_kd_36 z_kd_37 z_kd_38 z_kd_39 z_kd_40 z_kd_41 z_kd_42 z_kd_43 z_kd_44 z_kd_45 z_kd_46 z_kd_47 z_kd_48 z_kd_49 z_kd_50 z_kd_51 z_kd_52 z_kd_53 z_kd_54 z_kd_55 z_kd_56 z_kd_57; simp only [condP, eq_self, implies_true, and_self, true_and, and_true, true_implies, forall_const, decide_eq_true_eq, decide_eq_false_iff_not, Int.toNat_natCast, dSpan_eSpan, dInt_eInt, dGau_e, dPt_e, dLn_e, dRt_e, Nat.zero_add, Int.zero_sub, Nat.le_eq, Nat.succ_eq_add_one, Nat.add_one_le_iff, Bool.not_eq_true', Bool.not_eq_false', rng_length, dSpan_mk, rng_getD, List.length_drop, rng2, rng3]
 refine ⟨⟨0, rfl, Nat.zero_le _, rfl⟩, λ i ⟨hi, hI⟩ => ⟨λ hlt => ?_, λ hge => ?_⟩⟩
 ·have hlt : i < a.k.length := Int.ofNat_lt.1 hlt
  rw [wsucc (by omega)]
  simp only [Int.toNat_natCast]
  rw [drop_c hlt, knt1_c] at hI
  refine ⟨⟨by omega, by omega⟩, ⟨by omega, by omega, Int.le_refl _⟩, ⟨⟨i, 0⟩, ⟨rfl, rfl, rfl, rfl, λ j hj => gD_drop _ _ _, rfl, rfl⟩, rfl, hlt, Nat.zero_le _, hI⟩, λ x ⟨x1, x2, x3, x4⟩ => ⟨λ hj => ?_, λ hj => ?_⟩⟩
  ·have hj : x.j < a.k.length - (x.i + 1) := Int.ofNat_lt.1 hj
   have hxi : x.i = i := by omega
   have e : (IntKind.i64.wrap (IntKind.i64.wrap ((x.i : Int) + x.j) + 2)) = ((x.i + x.j + 2 : Nat) : Int) := by
    rw [w64 (n := (x.i : Int) + x.j) (by omega) (by omega), w64 (by omega) (by omega)]; omega
   rw [drop_c (l := a.k.drop (x.i + 1)) (by rw [List.length_drop]; omega), List.drop_drop, show x.i + 1 + (x.j + 1) = x.i + x.j + 2 by omega, knt2_c] at x4
   refine ⟨⟨by omega, by omega⟩, ⟨rfl, all2 _ _, ⟨h1, by show 2 < 1073741824; omega⟩, h3⟩, λ ht => ?_, λ ht => ?_⟩
   ·rw [ht] at x4
    have ek : kntM a = [gD a.k x.i, gD (a.k.drop (x.i + 1)) x.j] := by unfold kntM; rw [x4]; rfl
    rw [ek]; exact ⟨rfl, all2 _ _⟩
   ·rw [ht] at x4
    rw [e]; simp only [Int.toNat_natCast]
    refine ⟨⟨by omega, by omega, Int.le_refl _⟩, ⟨⟨x.i, x.j, 0⟩, ⟨rfl, rfl, rfl, rfl, λ _ _ => rfl, rfl, rfl, rfl, rfl, λ j hj => gD_drop _ _ _, rfl, rfl⟩, x1, x2, rfl, hj, Nat.zero_le _, x4⟩, λ y ⟨y1, y2, y3, y4, y5, y6⟩ => ⟨λ hk => ?_, λ hk => ?_⟩⟩
    ·have hk : y.k < a.k.length - (y.i + y.j + 2) := Int.ofNat_lt.1 hk
     rw [drop_c (l := a.k.drop (y.i + y.j + 2)) (by rw [List.length_drop]; omega), knt3_c] at y6
     refine ⟨⟨by omega, by omega⟩, ⟨rfl, all3 _ _ _, ⟨h1, by show 3 < 1073741824; omega⟩, h3⟩, λ ht => ?_, λ ht => ?_⟩
     ·rw [ht] at y6
      have ek : kntM a = [gD a.k y.i, gD (a.k.drop (y.i + 1)) y.j, gD (a.k.drop (y.i + y.j + 2)) y.k] := by unfold kntM; rw [y6]; rfl
      rw [ek]; exact ⟨rfl, all3 _ _ _⟩
     ·rw [ht] at y6
      exact ⟨⟨y.i, y.j, y.k + 1⟩, ⟨rfl, rfl, rfl, rfl, λ _ _ => rfl, rfl, rfl, rfl, rfl, λ _ _ => rfl, rfl, (wsucc (by omega)).symm⟩, ⟨y1, y2, y3, y4, by show y.k + 1 <= a.k.length - (y.i + y.j + 2); omega, y6⟩, by show a.k.length - (y.i + y.j + 2) - (y.k + 1) < _; omega⟩
    ·have hk : a.k.length - (y.i + y.j + 2) <= y.k := by omega
     rw [List.drop_of_length_le (l := a.k.drop (y.i + y.j + 2)) (by rw [List.length_drop]; omega)] at y6
     refine ⟨⟨y.i, y.j + 1⟩, ⟨rfl, rfl, rfl, rfl, λ _ _ => rfl, rfl, (wsucc (by omega)).symm⟩, ⟨y1, y2, by show y.j + 1 <= a.k.length - (y.i + 1); omega, ?_⟩, by show a.k.length - (y.i + 1) - (y.j + 1) < _; omega⟩
     show _ = orO (knt2 a.g (gD a.k y.i) ((a.k.drop (y.i + 1)).drop (y.j + 1))) _
     rw [List.drop_drop, show y.i + 1 + (y.j + 1) = y.i + y.j + 2 by omega]; exact y6
  ·have hj : a.k.length - (x.i + 1) <= x.j := by omega
   rw [List.drop_of_length_le (l := a.k.drop (x.i + 1)) (by rw [List.length_drop]; omega)] at x4
   exact ⟨x.i + 1, (wsucc (by omega)).symm, ⟨by omega, x4⟩, by omega⟩
 ·rw [List.drop_of_length_le (by omega)] at hI
  have ek : kntM a = [] := by unfold kntM; rw [hI]; rfl
  rw [ek]; rfl
theorem ok_kd : SpecOk Try.prog n_knotted (C_kd.spec dGK) := okC C_kd A_kd [] [] fn_knotted (λ _ => by kernel_rfl) (λ _ => gok_cons ok_kt1 gok_nil) (λ (a : GK) h => by
 obtain ⟨⟨h1, h2⟩, h3⟩ : (a.g.length < 1073741824 /\ a.k.length < 1073741824) /\ ∀ g ∈ a.g, okG g := h
 exact p_kd a h1 h2 h3) (λ _ => noI rfl rfl) _
theorem pkL_len {a : GPk} (h : 0 <= a.a /\ a.a <= a.b /\ a.b <= a.o.length) : (pkL a).length = a.b.toNat - a.a.toNat := by
 unfold pkL; rw [List.length_drop, List.length_take]; omega
theorem pkL_gD {a : GPk} {i : Nat} (h : i < (pkL a).length) : gD (pkL a) i = gD a.o (a.a.toNat + i) := by
 unfold pkL at *
 rw [gD_drop]
 rw [List.length_drop, List.length_take] at h
 simp [gD, List.getD_eq_getElem?_getD, List.getElem?_take, show a.a.toNat + i < a.b.toNat by omega]
theorem pkL_mem {a : GPk} {x : Int} (h : x ∈ pkL a) : x ∈ a.o := List.mem_of_mem_take (List.mem_of_mem_drop h)
theorem p_pk (a : GPk) (h : 0 <= a.a /\ a.a <= a.b /\ a.b <= a.o.length /\ a.o.length < 1073741824) (hx : ∀ x ∈ a.o, 0 <= x /\ x < a.g.length) : V_pk a := by
 rw [vc_pk]; delta z_pk_0 z_pk_1 z_pk_2 z_pk_3 z_pk_4 z_pk_5 z_pk_6 z_pk_7 z_pk_8 z_pk_9 z_pk_10 z_pk_11 z_pk_12 z_pk_13 z_pk_14 z_pk_15 z_pk_16 z_pk_17 z_pk_18 z_pk_19 z_pk_20 z_pk_21 z_pk_22 z_pk_23 z_pk_24 z_pk_25; simp only [condP, eq_self, implies_true, and_self, true_and, and_true, true_implies, forall_const, decide_eq_true_eq, decide_eq_false_iff_not, Int.toNat_natCast, dSpan_eSpan, dInt_eInt, dGau_e, dPt_e, dLn_e, dRt_e, Nat.zero_add, Int.zero_sub, Nat.le_eq, Nat.succ_eq_add_one, Nat.add_one_le_iff, Bool.not_eq_true', Bool.not_eq_false', rng_length, dSpan_mk, rng_getD]
 have hl := pkL_len ⟨h.1, h.2.1, h.2.2.1⟩
 have hk : ∀ {i : Nat}, i < (pkL a).length -> 0 <= gD (pkL a) i /\ gD (pkL a) i < a.g.length := λ hi => hx _ (pkL_mem (gD_mem hi))
 have hm : ∀ i, (((pkL a).take i).map λ i => gD a.g i.toNat).length <= (pkL a).length := λ i => by simp; omega
 refine ⟨⟨h.1, h.2.1, h.2.2.1⟩, ⟨default, hl, λ i hi => pkL_gD hi, by rw [hl]⟩, ⟨λ hlt => ⟨⟨by omega, by omega⟩, ⟨hk (by omega), by omega, by omega, by omega, by omega, by omega⟩, ⟨1, [gD a.g (gD (pkL a) 0).toNat]⟩, ⟨rfl, rfl, rfl, λ i hi => ?_⟩, ⟨by show 0 < 1; omega, by show 1 <= _; omega, ?_⟩, by show (pkL a).length - 1 < _; omega⟩, λ hge => ?_⟩, λ x ⟨x1, x2, x3⟩ => ⟨λ hlt => ⟨⟨by omega, by omega⟩, ⟨hk (by omega), by omega, λ h => (by cases h), ?_, ?_⟩, ⟨x.i + 1, x.l ++ [gD a.g (gD (pkL a) x.i).toNat]⟩, ⟨by simp, (wsucc (by omega)).symm, by simp, snocG _ _⟩, ⟨by show 0 < x.i + 1; omega, by show x.i + 1 <= _; omega, ?_⟩, by show (pkL a).length - (x.i + 1) < _; omega⟩, λ hge => ?_⟩⟩
 ·have hi : i < 1 := hi
  rw [show i = 0 by omega]; exact ⟨rfl, rfl, rfl⟩
 ·show [gD a.g (gD (pkL a) 0).toNat] = ((pkL a).take 1).map _
  rw [take_snoc (by omega : 0 < (pkL a).length)]; rfl
 ·unfold pkM; rw [List.length_map]; omega
 ·have := hm x.i; rw [<- x3] at this; omega
 ·have := hm x.i; rw [<- x3] at this; omega
 ·show x.l ++ _ = ((pkL a).take (x.i + 1)).map _
  rw [take_snoc (by omega : x.i < (pkL a).length), List.map_append, x3]; rfl
 ·have : x.l = pkM a := by rw [x3, List.take_of_length_le (by omega)]; rfl
  rw [this]; exact ⟨rfl, Nat.le_refl _, λ _ _ => ⟨rfl, rfl, rfl⟩⟩
theorem ok_pk : SpecOk Try.prog n_fewest2 (C_pk.spec dGPk) := okC C_pk A_pk [] [201] fn_fewest2 (λ _ => by kernel_rfl) (λ _ => gok_nil) (λ (a : GPk) h => by
 obtain ⟨h1, h2⟩ : (0 <= a.a /\ a.a <= a.b /\ a.b <= a.o.length /\ a.o.length < 1073741824) /\ ∀ x ∈ a.o, 0 <= x /\ x < a.g.length := h
 exact p_pk a h1 h2) (λ _ => noI rfl rfl) _
end Go.Bal
