/- Package rating: what ties; gaugings that are picked. -/
import Derived.Test.YtoihhodbkimedaaRatR
set_option linter.unusedVariables false
set_option linter.unusedSimpArgs false
namespace Go.Bal
open Go Go.Sym Go.Proofs
def XU (a : GK) : Bool := bif (Vh a).2 then !(CS (Vh a).1).2 else false
def dKt : List AVal -> Heap -> Option (GK × List (Nat × Nat) × List Nat)
 | [x, .bptr id _], H => match AIY x H, H id with
  | some (m, e), .live (.box [.d (.list _ n h _)]) => some (⟨OC n λ i => Ux (h i), m⟩, [(100, id)], e)
  | _, _ => none
 | _, _ => none
def C_kt1 : Ctr := { ro := [100], α := GK, xs := λ a => [.d (DC a.k), .bptr 100 0], L := λ a => [(100, bxG a.g)], val := λ a => .bool (XU a), keep := λ a => [(100, .live (bxG a.g))], pre := λ a => [(a.g.length < 1073741824 /\ a.k.length < 1073741824) /\ ∀ g ∈ a.g, XH g] }
def CBG : Ann := { ann 17 [(uG, C_named.spec dGK), (Vp, C_isKnot.spec dGsK)] with E := [100] }
def BYZ (a : GK) : Prop := CH Try.prog CBG D4 (AI D4) (C_kt1.xs a) (AD (C_kt1.L a)) (C_kt1.val a) (C_kt1.keep a) [] []
theorem CDL (a : GK) : (BYZ a) = (AJ (AY (AW (ZA a) (OG a)) (BE (ZA a) (OG a)) (CO (YZ a) (LM a)) (CE (YZ a) (LM a)) (MR (ZA a)) (RD (YZ a))) (MY (Tr (ZA a) (YZ a)) (AH (BR (Ng a a)) (BW (Ng a a)) (Pg (Ng a a)) (Aq (Ng a a)))) (KY (XU a) (HG (Tr (ZA a) (YZ a)) (Xl (Ng a a)))) (AS (OG a)) (CB (OG a))) := by kernel_rfl
def knt3 (g : List Gau) (a b : Int) : List Int -> Option (List Int)
 | [] => none
 | c :: cs => bif XU ⟨g, [a, b, c]⟩ then some [a, b, c] else knt3 g a b cs
def orO (x y : Option (List Int)) : Option (List Int) := match x with
 | some z => some z
 | none => y
def knt2 (g : List Gau) (a : Int) : List Int -> Option (List Int)
 | [] => none
 | b :: cs => bif XU ⟨g, [a, b]⟩ then some [a, b] else orO (knt3 g a b cs) (knt2 g a cs)
def jG (g : List Gau) : List Int -> Option (List Int)
 | [] => none
 | a :: bs => orO (knt2 g a bs) (jG g bs)
def Hk (a : GK) : List Int := (jG a.g a.k).getD []
structure IJK where
 i : Nat
 j : Nat
 k : Nat
 deriving Inhabited
structure IJ2 where
 i : Nat
 j : Nat
 deriving Inhabited
def kdS (a : GK) (i : Nat) : List (Nat × AVal) := [(1, .d (DC a.k)), (5, .fn (.func kK) [] [.bptr 1000 0]), (13, .d (DC a.k)), (14, .int a.k.length), (15, .int i)]
def kdT (a : GK) (i j : Nat) : List (Nat × AVal) := kdS a i ++ [(6, .int i), (7, .int (gD a.k i)), (23, .d (DC (a.k.drop (i + 1)))), (24, .int (a.k.drop (i + 1)).length), (25, .int j)]
def kdH (a : GK) : List (Nat × HCell) := [(1000, .live (bxG a.g))]
def kd3 (a : GK) : Shape := { α := Nat, dflt := 0, T := λ i => ⟨kdS a i, kdH a⟩, inv := λ i => i <= a.k.length /\ jG a.g a.k = jG a.g (a.k.drop i), meas := λ i => a.k.length - i }
def kd6 (a : GK) (m : Nat) : Shape := { α := IJ2, dflt := default, T := λ x => ⟨kdT a x.i x.j, kdH a⟩, inv := λ x => a.k.length - x.i = m /\ x.i < a.k.length /\ x.j <= (a.k.drop (x.i + 1)).length /\ jG a.g a.k = orO (knt2 a.g (gD a.k x.i) ((a.k.drop (x.i + 1)).drop x.j)) (jG a.g (a.k.drop (x.i + 1))), meas := λ x => (a.k.drop (x.i + 1)).length - x.j }
def kd11 (a : GK) (m q : Nat) : Shape := { α := IJK, dflt := default, T := λ x => ⟨kdT a x.i x.j ++ [(9, .int (gD (a.k.drop (x.i + 1)) x.j)), (43, .d (DC (a.k.drop (x.i + x.j + 2)))), (44, .int (a.k.drop (x.i + x.j + 2)).length), (45, .int x.k)], kdH a⟩, inv := λ x => a.k.length - x.i = m /\ x.i < a.k.length /\ (a.k.drop (x.i + 1)).length - x.j = q /\ x.j < (a.k.drop (x.i + 1)).length /\ x.k <= (a.k.drop (x.i + x.j + 2)).length /\ jG a.g a.k = orO (orO (knt3 a.g (gD a.k x.i) (gD (a.k.drop (x.i + 1)) x.j) ((a.k.drop (x.i + x.j + 2)).drop x.k)) (knt2 a.g (gD a.k x.i) (a.k.drop (x.i + x.j + 2)))) (jG a.g (a.k.drop (x.i + 1))), meas := λ x => (a.k.drop (x.i + x.j + 2)).length - x.k }
def C_kd : Ctr := { α := GK, xs := xGK, L := λ _ => [], val := λ a => .d (DC (Hk a)), keep := λ _ => [], pre := λ a => [(a.g.length < 1073741824 /\ a.k.length < 1073741824) /\ ∀ g ∈ a.g, XH g] }
def A_kd (a : GK) : Ann := { ann 62 [(kK, C_kt1.spec dKt)] with md := λ id => if id = 8 then some (λ k => if k = 3 then 4 else 0) else if id = 9 then some (λ k => if k = 2 then 4 else 0) else if id = 13 then some (λ k => if k = 4 then 4 else 0) else if id = 14 then some (λ k => if k = 3 then 4 else 0) else none, loops := λ id => if id = 3 then some [kd3 a] else none, inner := λ gs id => if id = 6 then some [kd6 a (gs.getD 0 0)] else if id = 11 then some [kd11 a (gs.getD 1 0) (gs.getD 0 0)] else none }
def V_kd (a : GK) : Prop := CH Try.prog (A_kd a) AGS (AI AGS) (xGK a) (AD []) (C_kd.val a) [] [] []
abbrev Ps (a : GK) : Prop := a.k.length = a.k.length
abbrev Qy (a : GK) : Prop := ∀ (i : Nat), i < a.k.length -> gD a.k i = gD a.k i
abbrev K3 (a : GK) : Prop := (↑a.k.length : Int) = (↑a.k.length : Int)
abbrev F3 (a : GK) : Prop := a.g.length = a.g.length /\ ∀ (i : Nat), i < a.g.length -> (gD a.g i).st = (gD a.g i).st /\ (gD a.g i).lo = (gD a.g i).lo /\ (gD a.g i).hi = (gD a.g i).hi
abbrev AVQ (a : Nat) (a1 : GK) : Prop := a <= a1.k.length /\ jG a1.g a1.k = jG a1.g (List.drop a a1.k)
abbrev BDP (a : Nat) (a1 : GK) : Prop := (↑a : Int) < (↑a1.k.length : Int)
abbrev AWU (a : Nat) : Int := IntKind.i64.wrap ((↑a : Int) + 1)
abbrev BDV (a : GK) : Prop := (↑a.k.length : Int) <= (↑a.k.length : Int)
abbrev BDW (a : IJ2) (a1 : Nat) : Prop := (↑a.i : Int) = (↑a1 : Int)
abbrev AGN (a : IJ2) (a1 : GK) : List Int := List.drop (a.i + 1) a1.k
abbrev Kk (a : IJ2) (a1 : GK) : Nat := (AGN a a1).length
abbrev AUT (a : Nat) : Nat := (AWU a).toNat
abbrev AWH (a : GK) (a1 : Nat) : Nat := a.k.length - AUT a1
abbrev AWJ (i : Nat) (a : IJ2) (a1 : GK) : Prop := i < Kk a a1
abbrev AKG (a : IJ2) (a1 : GK) (i : Nat) : Int := gD (AGN a a1) i
abbrev X6 (a : GK) (a1 : Nat) : Nat := a.k.length - a1
abbrev AKK (a : GK) (a1 : IJ2) (a2 : Nat) : Prop := a.k.length - a1.i = X6 a a2 /\ a1.i < a.k.length /\ a1.j <= Kk a1 a /\ jG a.g a.k = orO (knt2 a.g (gD a.k a1.i) (List.drop a1.j (AGN a1 a))) (jG a.g
 (AGN a1 a))
abbrev AUN (a : IJ2) (a1 : GK) : Prop := (↑a.j : Int) < (↑(Kk a a1) : Int)
abbrev AXX (i : Nat) : Bool := decide (i = 0)
abbrev AXF (a : IJ2) (a1 : GK) : Int := gD (AGN a a1) a.j
abbrev ALG (i : Nat) (a : GK) (a1 : IJ2) : Int := bif AXX i then gD a.k a1.i else AXF a1 a
abbrev AKE (a : GK) (a1 : IJ2) : List Int := OC 2 λ (i : Nat) => ALG i a a1
abbrev ALK (a : GK) (a1 : IJ2) : Nat := (AKE a a1).length
abbrev wI (a : GK) : List Gau := OC a.g.length λ (i : Nat) => gD a.g i
abbrev ABV (a : GK) : Nat := (wI a).length
abbrev AXE (a : GK) : Prop := ABV a = a.g.length
abbrev ALP (a : GK) (i : Nat) : Gau := gD (wI a) i
abbrev AYF (a : GK) (i : Nat) : Int := (ALP a i).st
abbrev AYG (a : GK) (i : Nat) : Int := (ALP a i).lo
abbrev AYH (a : GK) (i : Nat) : Int := (ALP a i).hi
abbrev AXJ (a : GK) : Prop := ∀ (i : Nat), i < ABV a -> AYF a i = (gD a.g i).st /\ AYG a i = (gD a.g i).lo /\ AYH a i = (gD a.g i).hi
abbrev AWM (a : GK) : Prop := a.g.length = ABV a
abbrev AUW (a : GK) : Prop := ∀ (i : Nat), i < a.g.length -> (gD a.g i).st = AYF a i /\ (gD a.g i).lo = AYG a i /\ (gD a.g i).hi = AYH a i
abbrev AXM (a : GK) : Prop := ABV a < 1073741824
abbrev AVO (a : GK) : Prop := ∀ (g : Gau), List.Mem g (wI a) -> 0 <= g.st /\ g.st <= 2000 /\ 0 <= g.lo /\ g.lo <= g.hi /\ g.hi <= 200000
abbrev ALC (a : IJ2) : Int := IntKind.i64.wrap (IntKind.i64.wrap ((↑a.i : Int) + (↑a.j : Int)) + 2)
abbrev AXZ (a : IJK) (a1 : IJ2) : Prop := (↑a.i : Int) = (↑a1.i : Int)
abbrev Z0 (a : IJK) (a1 : GK) : List Int := List.drop (a.i + 1) a1.k
abbrev Fg (a : IJK) (a1 : GK) : Nat := (Z0 a a1).length
abbrev AVW (i : Nat) (a : IJK) (a1 : GK) : Prop := i < Fg a a1
abbrev AAV (a : IJK) (a1 : GK) (i : Nat) : Int := gD (Z0 a a1) i
abbrev wN (a : IJK) (a1 : GK) : Int := gD (Z0 a a1) a.j
abbrev vR (a : IJK) (a1 : GK) : List Int := List.drop (a.i + a.j + 2) a1.k
abbrev Kw (a : IJK) (a1 : GK) : Nat := (vR a a1).length
abbrev AUR (a : IJ2) : Nat := (ALC a).toNat
abbrev AVI (a : GK) (a1 : IJ2) : Nat := a.k.length - AUR a1
abbrev AYR (i : Nat) (a : IJK) (a1 : GK) : Prop := i < Kw a a1
abbrev AKX (a : IJK) (a1 : GK) (i : Nat) : Int := gD (vR a a1) i
abbrev AKN (a : IJ2) (a1 : GK) : Nat := Kk a a1 - a.j
abbrev ALE (a : GK) (a1 : IJK) (a2 : Nat) (a3 : IJ2) : Prop := a.k.length - a1.i = X6 a a2 /\ a1.i < a.k.length /\ Fg a1 a - a1.j = AKN a3 a /\ a1.j < Fg a1 a /\ a1.k <= Kw a1 a /\ jG a.g a.k =
 orO (orO (knt3 a.g (gD a.k a1.i) (wN a1 a) (List.drop a1.k (vR a1 a))) (knt2 a.g (gD a.k a1.i) (vR a1 a))) (jG a.g (Z0 a1 a))
abbrev AXK (a : IJK) (a1 : GK) : Prop := (↑a.k : Int) < (↑(Kw a a1) : Int)
abbrev ALN (i : Nat) (a : GK) (a1 : IJK) : Int := bif AXX i then gD a.k a1.i else bif decide (i - 1 = 0) then wN a1 a else gD (vR a1 a) a1.k
abbrev ALA (a : GK) (a1 : IJK) : List Int := OC 3 λ (i : Nat) => ALN i a a1
abbrev AKD (a : GK) (a1 : IJK) : Nat := (ALA a a1).length
abbrev AWP (a : IJK) (a1 : IJK) : Prop := (↑a.i : Int) = (↑a1.i : Int)
abbrev AWN (a : IJK) (a1 : GK) : Nat := Kw a a1 - a.k
abbrev AYL (a : IJ2) (a1 : IJK) : Prop := (↑a.i : Int) = (↑a1.i : Int)
abbrev AYE (a : GK) : Prop := (Hk a).length = 0
theorem CIB (a : GK) : (V_kd a) = ((∃ (a_1 : Nat), (Ps a /\ Qy a /\ Ps a /\ Qy a /\ K3 a /\ (↑a_1 : Int) = 0 /\ F3 a) /\ AVQ a_1 a) /\ ∀ (a_1 : Nat), AVQ a_1 a -> bif decide (BDP a_1 a) then (0
 <= (↑a_1 : Int) /\ BDP a_1 a) /\ (0 <= AWU a_1 /\ AWU a_1 <= (↑a.k.length : Int) /\ BDV a) /\ (∃ (a_3 : IJ2), (Ps a /\ Qy a /\ Ps a /\ Qy a /\ K3 a /\ BDW a_3 a_1 /\ BDW a_3 a_1 /\ gD a.k a_3.i =
 gD a.k a_1 /\ Kk a_3 a = AWH a a_1 /\ (∀ (i : Nat), AWJ i a_3 a -> AKG a_3 a i = gD a.k (AUT a_1 + i)) /\ (↑(Kk a_3 a) : Int) = (↑(AWH a a_1) : Int) /\ (↑a_3.j : Int) = 0 /\ F3 a) /\ AKK a
 a_3 a_1) /\ ∀ (a_3 : IJ2), AKK a a_3 a_1 -> bif decide (AUN a_3 a) then (0 <= (↑a_3.j : Int) /\ AUN a_3 a) /\ (ALK a a_3 = 2 /\ (∀ (i : Nat), i < ALK a a_3 -> gD (AKE a a_3) i = ALG i a a_3) /\
 AXE a /\ AXJ a /\ AWM a /\ AUW a /\ (AXM a /\ ALK a a_3 < 1073741824) /\ AVO a) /\ bif XU (GK.mk (wI a) (AKE a a_3)) then (Hk a).length = 2 /\ ∀ (i : Nat), i < (Hk a).length -> gD (Hk
 a) i = ALG i a a_3 else (0 <= ALC a_3 /\ ALC a_3 <= (↑a.k.length : Int) /\ BDV a) /\ (∃ (a_5 : IJK), (Ps a /\ Qy a /\ Ps a /\ Qy a /\ K3 a /\ AXZ a_5 a_3 /\ AXZ a_5 a_3 /\ gD a.k a_5.i = gD
 a.k a_3.i /\ Fg a_5 a = Kk a_3 a /\ (∀ (i : Nat), AVW i a_5 a -> AAV a_5 a i = AKG a_3 a i) /\ (↑(Fg a_5 a) : Int) = (↑(Kk a_3 a) : Int) /\ (↑a_5.j : Int) = (↑a_3.j : Int) /\ wN a_5 a =
 AXF a_3 a /\ Kw a_5 a = AVI a a_3 /\ (∀ (i : Nat), AYR i a_5 a -> AKX a_5 a i = gD a.k (AUR a_3 + i)) /\ (↑(Kw a_5 a) : Int) = (↑(AVI a a_3) : Int) /\ (↑a_5.k : Int) = 0 /\ F3 a) /\ ALE
 a a_5 a_1 a_3) /\ ∀ (a_5 : IJK), ALE a a_5 a_1 a_3 -> bif decide (AXK a_5 a) then (0 <= (↑a_5.k : Int) /\ AXK a_5 a) /\ (AKD a a_5 = 3 /\ (∀ (i : Nat), i < AKD a a_5 -> gD (ALA a a_5) i = ALN i a
 a_5) /\ AXE a /\ AXJ a /\ AWM a /\ AUW a /\ (AXM a /\ AKD a a_5 < 1073741824) /\ AVO a) /\ bif XU (GK.mk (wI a) (ALA a a_5)) then (Hk a).length = 3 /\ ∀ (i : Nat), i < (Hk a).length ->
 gD (Hk a) i = ALN i a a_5 else ∃ (a_7 : IJK), (Ps a /\ Qy a /\ Ps a /\ Qy a /\ K3 a /\ AWP a_7 a_5 /\ AWP a_7 a_5 /\ gD a.k a_7.i = gD a.k a_5.i /\ Fg a_7 a = Fg a_5 a /\ (∀ (i : Nat),
 AVW i a_7 a -> AAV a_7 a i = AAV a_5 a i) /\ (↑(Fg a_7 a) : Int) = (↑(Fg a_5 a) : Int) /\ (↑a_7.j : Int) = (↑a_5.j : Int) /\ wN a_7 a = wN a_5 a /\ Kw a_7 a = Kw a_5 a /\ (∀ (i : Nat),
 AYR i a_7 a -> AKX a_7 a i = AKX a_5 a i) /\ (↑(Kw a_7 a) : Int) = (↑(Kw a_5 a) : Int) /\ (↑a_7.k : Int) = IntKind.i64.wrap ((↑a_5.k : Int) + 1) /\ F3 a) /\ ALE a a_7 a_1 a_3 /\ AWN a_7 a <
 AWN a_5 a else ∃ (a_7 : IJ2), (Ps a /\ Qy a /\ Ps a /\ Qy a /\ K3 a /\ AYL a_7 a_5 /\ AYL a_7 a_5 /\ gD a.k a_7.i = gD a.k a_5.i /\ Kk a_7 a = Fg a_5 a /\ (∀ (i : Nat), AWJ i a_7 a ->
 AKG a_7 a i = AAV a_5 a i) /\ (↑(Kk a_7 a) : Int) = (↑(Fg a_5 a) : Int) /\ (↑a_7.j : Int) = IntKind.i64.wrap ((↑a_5.j : Int) + 1) /\ F3 a) /\ AKK a a_7 a_1 /\ AKN a_7 a < AKN a_3 a else ∃
 (a_5 : Nat), (Ps a /\ Qy a /\ Ps a /\ Qy a /\ K3 a /\ (↑a_5 : Int) = IntKind.i64.wrap ((↑a_3.i : Int) + 1) /\ F3 a) /\ AVQ a_5 a /\ X6 a a_5 < X6 a a_1 else AYE a /\ AYE a) := by
 kernel_rfl
structure GPk where
 g : List Gau
 o : List Int
 a : Int
 b : Int
def dGPk : List AVal -> Heap -> Option (GPk × List (Nat × Nat) × List Nat)
 | [.d x, .d y, .bptr c _, .bptr id _], H => match H id, H c with
  | .live (.box [.d (.list _ n h _)]), .live (.box [.d (.list _ m r _)]) => some (⟨OC n λ i => Ux (h i), OC m λ i => JD (r i), JD x, JD y⟩, [(100, id), (101, c)], [])
  | _, _ => none
 | _, _ => none
def Jb (a : GPk) : List Int := (a.o.take a.b.toNat).drop a.a.toNat
def pkM (a : GPk) : List Gau := (Jb a).map λ i => gD a.g i.toNat
def pkH (a : GPk) : List (Nat × HCell) := [(101, .live (.box [.d (DC a.o)])), (100, .live (bxG a.g))]
def pk3n (a : GPk) : Shape := { α := One, dflt := default, T := λ _ => ⟨[(3, .bptr 100 0), (7, .d VG), (13, .d (DC (Jb a))), (14, .int (Jb a).length), (15, .int 0)], pkH a⟩, inv := λ _ => True, meas := λ _ => (Jb a).length + 1 }
def pk3o (a : GPk) : Shape := { α := GsK, dflt := default, T := λ x => ⟨[(3, .bptr 100 0), (7, .own 201 3 0 x.l.length), (13, .d (DC (Jb a))), (14, .int (Jb a).length), (15, .int x.i)], pkH a ++ [(201, .live (rowG x.l))]⟩, inv := λ x => 1 <= x.i /\ x.i <= (Jb a).length /\ x.l = ((Jb a).take x.i).map λ i => gD a.g i.toNat, meas := λ x => (Jb a).length - x.i, again := [(201, 6096)] }
def C_pk : Ctr := { ro := [100, 101], α := GPk, xs := λ a => [.int a.a, .int a.b, .bptr 101 0, .bptr 100 0], L := λ a => [(101, .box [.d (DC a.o)]), (100, bxG a.g)], val := λ a => .d (DX (pkM a)), keep := pkH, pre := λ a => [(0 <= a.a /\ a.a <= a.b /\ a.b <= a.o.length /\ a.o.length < 1073741824) /\ ∀ x ∈ a.o, 0 <= x /\ x < a.g.length] }
def A_pk (a : GPk) : Ann := { ann 28 [] with E := [101, 100], mt := λ id => id == 5, loops := λ id => if id = 3 then some [pk3n a, pk3o a] else none }
def V_pk (a : GPk) : Prop := CH Try.prog (A_pk a) AFV (AI AFV) (C_pk.xs a) (AD (C_pk.L a)) (C_pk.val a) (C_pk.keep a) [] [201]
abbrev cE:=GPk.o
abbrev Bs:=GPk.g
abbrev Xf a b c d e f:=CZ a b (GI c d e f)
abbrev SJ a b c d e:=Xf a b b c d e
attribute [go_sem] cE Bs Xf SJ
theorem CGA (a : GPk) : (V_pk a) = (AH (AE (CA (GPk.a a)) (DW (GPk.a a) (GPk.b a)) (UC (GPk.b a) (cE a))) (LP (SO (KJ BM (BB (Jb a) (FM (GF (GPk.b a)) (GF (GPk.a a)))) (AG (λ i=>SJ i (Jb a) i (cE a) (KT (GF (GPk.a a)) i))) (EA (CX (Jb a)) (FM (GF (GPk.b a)) (GF (GPk.a a)))) BA (GN (cE a)) (LL (cE a)) (AS (Bs a)) (λ i=>HD i (Bs a))))) (NR (λ i=>EZ EF 0 (FP (Jb a)) (AE (WW (FP (Jb a))) (AY (Gu (Jb a) 0 (Bs a)) (SE (Hw 3)) Mg Dk (QW 9223372036854775807) (NY 24)) (iH (λ j=>CJ (AH AC (Ke j 1) (GN (Jb a)) (KJ (LL (Jb a)) (OY (Jb a)) (JE (CK j) 0) (GN (cE a)) (LL (cE a)) (AS (Bs a)) (CB (Bs a)) (Ke j 1) (λ k=>DV k (CR j) (DY (CR j) k (Bs a) (Et (Jb a) LJ)) (DN (CR j) k (Bs a) (Et (Jb a) LJ)) (Bs a) (Et (Jb a) LJ)))) (AE (jW j) (EL (CK j) (Jb a)) (YH j (ABO (λ k=>GP (Bs a) (GF k)) (hd48 (CK j) (Jb a))))) (VL (Jb a) (CK j)) (Cu (Jb a))))) (AY (CQ (pkM a) 0) (CQ (pkM a) 0) (GN (cE a)) (LL (cE a)) (AS (Bs a)) (CB (Bs a))))) (AAT (λ i=>DH (AE (jW i) (EL (CK i) (Jb a)) (YH i (ABO (λ j=>GP (Bs a) (GF j)) (hd48 (CK i) (Jb a))))) (CK i) (FP (Jb a)) (AE (GA (CK i) (FP (Jb a))) (AY (Gu (Jb a) (CK i) (Bs a)) (Jz (CR i) (CY 0 (CR i) (BO 3))) Mg Dl (DB (Kg i) 9223372036854775807) (NY (Ej (Kg i) 24))) (iH (λ j=>CJ (AH AC (Ke j (Kg i)) (GN (Jb a)) (KJ (LL (Jb a)) (OY (Jb a)) (BJ (CK j) (CK i)) (GN (cE a)) (LL (cE a)) (AS (Bs a)) (CB (Bs a)) (Ke j (Kg i)) (λ k=>CL k (CR j) (DE (CR j) k (Nw k i (AX (CR i) k) (sV (Bs a) (Jb a) (CK i)))) (DG (CR j) k (Nw k i (BH (CR i) k) (BH (Bs a) (Et (Jb a) (CK i))))) (DF (CR j) k (Nw k i (BN (CR i) k) (BN (Bs a) (Et (Jb a) (CK i)))))))) (AE (jW j) (EL (CK j) (Jb a)) (YH j (ABO (λ k=>GP (Bs a) (GF k)) (hd48 (CK j) (Jb a))))) (VL (Jb a) (CK j)) (VL (Jb a) (CK i))))) (DS (Nc (pkM a) i) (IA (CF (DM (CR i))) (CR i)) (AG (λ j=>DV j (pkM a) (DY (pkM a) j (CR i) (CF j)) (DN (pkM a) j (CR i) (CF j)) (CR i) (CF j))) (GN (cE a)) (LL (cE a)) (AS (Bs a)) (CB (Bs a)))))) := by kernel_rfl
theorem CDD : AL Try.prog kK (C_kt1.spec dKt) := Ih C_kt1 (λ _ => CBG) [] [] AZP (λ _ => by kernel_rfl) (λ _ => AB ABB (AB Vj AF)) (λ (a : GK) h => by
 show BYZ a; rw [CDL]<;> delta KY hd5 Dc GH HK FK PN AO AT CX AG CG CM EM DW PQ DM GP XV XJ iA LM OG AAH xW Iq KK AE KC AJ AP AU AK BO QS AX AH BH CY BN CL CZ CA FT GI BB QK HI CQ DF FC DG EN AW AY LW DE DN AS EO DY MY LI EU FE DV HP FG CE MK CO JN AJT HG MN Fc ZA FB HD BE CB LO MS BW JC LA BR MU Tr MR YZ RD MD fF Kz Xl Aq Ng Pg; simp only [CC, eq_self, implies_true, forall_const]
 obtain ⟨⟨h1, h2⟩, h3⟩ : (a.g.length < 1073741824 /\ a.k.length < 1073741824) /\ ∀ g ∈ a.g, XH g := h
 exact ⟨⟨h1, h2⟩, λ _ => BFA h3 h1, rfl⟩) (λ _ => Jf rfl rfl) _
theorem ARO {l : List Int} {i : Nat} (h : i < l.length) : l.drop i = gD l i :: l.drop (i + 1) := by
 rw [List.drop_eq_getElem_cons h]; simp [gD, List.getD_eq_getElem?_getD, h]
theorem Fh (l : List Int) (i j : Nat) : gD (l.drop i) j = gD l (i + j) := by
 simp [gD, List.getD_eq_getElem?_getD]
theorem rng2 (a b : Int) : (OC 2 λ i => bif decide (i = 0) then a else b) = [a, b] := rfl
theorem rng3 (a b c : Int) : (OC 3 λ i => bif decide (i = 0) then a else bif decide (i - 1 = 0) then b else c) = [a, b, c] := rfl
theorem all2 (a b : Int) : ∀ i, i < 2 -> gD [a, b] i = bif decide (i = 0) then a else b := λ i hi => by
 match i, hi with
 | 0, _ => rfl
 | 1, _ => rfl
theorem all3 (a b c : Int) : ∀ i, i < 3 -> gD [a, b, c] i = bif decide (i = 0) then a else bif decide (i - 1 = 0) then b else c := λ i hi => by
 match i, hi with
 | 0, _ => rfl
 | 1, _ => rfl
 | 2, _ => rfl
theorem BDZ (g : List Gau) (a : Int) (bs : List Int) : jG g (a :: bs) = orO (knt2 g a bs) (jG g bs) := rfl
theorem BGJ (g : List Gau) (a b : Int) (cs : List Int) : knt2 g a (b :: cs) = bif XU ⟨g, [a, b]⟩ then some [a, b] else orO (knt3 g a b cs) (knt2 g a cs) := rfl
theorem BGL (g : List Gau) (a b c : Int) (cs : List Int) : knt3 g a b (c :: cs) = bif XU ⟨g, [a, b, c]⟩ then some [a, b, c] else knt3 g a b cs := rfl
theorem p_kd (a : GK) (h1 : a.g.length < 1073741824) (h2 : a.k.length < 1073741824) (h3 : ∀ g ∈ a.g, XH g) : V_kd a := by
 rw [CIB]; delta Ps Qy K3 F3 AVQ BDP AWU BDV BDW AGN Kk AUT AWH AWJ AKG X6 AKK AUN AXX AXF ALG AKE ALK wI ABV AXE ALP AYF AYG AYH AXJ AWM AUW AXM AVO ALC AXZ Z0 Fg AVW AAV wN vR Kw AUR AVI AYR AKX AKN ALE AXK ALN ALA AKD AWP AWN AYL AYE; simp only [CC, eq_self, implies_true, forall_const, List.length_drop, rng2, rng3]
 refine ⟨⟨0, rfl, Nat.zero_le _, rfl⟩, λ i ⟨hi, hI⟩ => ⟨λ hlt => ?_, λ hge => ?_⟩⟩
 ·have hlt : i < a.k.length := Int.ofNat_lt.1 hlt
  rw [EQ (by omega)]
  simp only [Int.toNat_natCast]
  rw [ARO hlt, BDZ] at hI
  refine ⟨⟨by omega, by omega⟩, ⟨by omega, by omega, Int.le_refl _⟩, ⟨⟨i, 0⟩, ⟨rfl, rfl, rfl, rfl, λ j hj => Fh _ _ _, rfl, rfl⟩, rfl, hlt, Nat.zero_le _, hI⟩, λ x ⟨x1, x2, x3, x4⟩ => ⟨λ hj => ?_, λ hj => ?_⟩⟩
  ·have hj : x.j < a.k.length - (x.i + 1) := Int.ofNat_lt.1 hj
   have hxi : x.i = i := by omega
   have e : (IntKind.i64.wrap (IntKind.i64.wrap ((x.i : Int) + x.j) + 2)) = ((x.i + x.j + 2 : Nat) : Int) := by
    rw [LS (n := (x.i : Int) + x.j) (by omega) (by omega), LS (by omega) (by omega)]; omega
   rw [ARO (l := a.k.drop (x.i + 1)) (by rw [List.length_drop]; omega), List.drop_drop, show x.i + 1 + (x.j + 1) = x.i + x.j + 2 by omega, BGJ] at x4
   refine ⟨⟨by omega, by omega⟩, ⟨rfl, all2 _ _, ⟨h1, by show 2 < 1073741824; omega⟩, h3⟩, λ ht => ?_, λ ht => ?_⟩
   ·rw [ht] at x4
    have ek : Hk a = [gD a.k x.i, gD (a.k.drop (x.i + 1)) x.j] := by unfold Hk; rw [x4]; rfl
    rw [ek]; exact ⟨rfl, all2 _ _⟩
   ·rw [ht] at x4
    rw [e]; simp only [Int.toNat_natCast]
    refine ⟨⟨by omega, by omega, Int.le_refl _⟩, ⟨⟨x.i, x.j, 0⟩, ⟨rfl, rfl, rfl, rfl, λ _ _ => rfl, rfl, rfl, rfl, rfl, λ j hj => Fh _ _ _, rfl, rfl⟩, x1, x2, rfl, hj, Nat.zero_le _, x4⟩, λ y ⟨y1, y2, y3, y4, y5, y6⟩ => ⟨λ hk => ?_, λ hk => ?_⟩⟩
    ·have hk : y.k < a.k.length - (y.i + y.j + 2) := Int.ofNat_lt.1 hk
     rw [ARO (l := a.k.drop (y.i + y.j + 2)) (by rw [List.length_drop]; omega), BGL] at y6
     refine ⟨⟨by omega, by omega⟩, ⟨rfl, all3 _ _ _, ⟨h1, by show 3 < 1073741824; omega⟩, h3⟩, λ ht => ?_, λ ht => ?_⟩
     ·rw [ht] at y6
      have ek : Hk a = [gD a.k y.i, gD (a.k.drop (y.i + 1)) y.j, gD (a.k.drop (y.i + y.j + 2)) y.k] := by unfold Hk; rw [y6]; rfl
      rw [ek]; exact ⟨rfl, all3 _ _ _⟩
     ·rw [ht] at y6
      exact ⟨⟨y.i, y.j, y.k + 1⟩, ⟨rfl, rfl, rfl, rfl, λ _ _ => rfl, rfl, rfl, rfl, rfl, λ _ _ => rfl, rfl, (EQ (by omega)).symm⟩, ⟨y1, y2, y3, y4, by show y.k + 1 <= a.k.length - (y.i + y.j + 2); omega, y6⟩, by show a.k.length - (y.i + y.j + 2) - (y.k + 1) < _; omega⟩
    ·have hk : a.k.length - (y.i + y.j + 2) <= y.k := by omega
     rw [List.drop_of_length_le (l := a.k.drop (y.i + y.j + 2)) (by rw [List.length_drop]; omega)] at y6
     refine ⟨⟨y.i, y.j + 1⟩, ⟨rfl, rfl, rfl, rfl, λ _ _ => rfl, rfl, (EQ (by omega)).symm⟩, ⟨y1, y2, by show y.j + 1 <= a.k.length - (y.i + 1); omega, ?_⟩, by show a.k.length - (y.i + 1) - (y.j + 1) < _; omega⟩
     show _ = orO (knt2 a.g (gD a.k y.i) ((a.k.drop (y.i + 1)).drop (y.j + 1))) _
     rw [List.drop_drop, show y.i + 1 + (y.j + 1) = y.i + y.j + 2 by omega]; exact y6
  ·have hj : a.k.length - (x.i + 1) <= x.j := by omega
   rw [List.drop_of_length_le (l := a.k.drop (x.i + 1)) (by rw [List.length_drop]; omega)] at x4
   exact ⟨x.i + 1, (EQ (by omega)).symm, ⟨by omega, x4⟩, by omega⟩
 ·rw [List.drop_of_length_le (by omega)] at hI
  have ek : Hk a = [] := by unfold Hk; rw [hI]; rfl
  rw [ek]; rfl
theorem CBD : AL Try.prog AFE (C_kd.spec dGK) := Ih C_kd A_kd [] [] BFO (λ _ => by kernel_rfl) (λ _ => AB CDD AF) (λ (a : GK) h => by
 obtain ⟨⟨h1, h2⟩, h3⟩ : (a.g.length < 1073741824 /\ a.k.length < 1073741824) /\ ∀ g ∈ a.g, XH g := h
 exact p_kd a h1 h2 h3) (λ _ => Jf rfl rfl) _
theorem BWH {a : GPk} (h : 0 <= a.a /\ a.a <= a.b /\ a.b <= a.o.length) : (Jb a).length = a.b.toNat - a.a.toNat := by
 unfold Jb; rw [List.length_drop, List.length_take]; omega
theorem CCO {a : GPk} {i : Nat} (h : i < (Jb a).length) : gD (Jb a) i = gD a.o (a.a.toNat + i) := by
 unfold Jb at *
 rw [Fh]
 rw [List.length_drop, List.length_take] at h
 simp [gD, List.getD_eq_getElem?_getD, List.getElem?_take, show a.a.toNat + i < a.b.toNat by omega]
theorem BHR {a : GPk} {x : Int} (h : x ∈ Jb a) : x ∈ a.o := List.mem_of_mem_take (List.mem_of_mem_drop h)
theorem p_pk (a : GPk) (h : 0 <= a.a /\ a.a <= a.b /\ a.b <= a.o.length /\ a.o.length < 1073741824) (hx : ∀ x ∈ a.o, 0 <= x /\ x < a.g.length) : V_pk a := by
 rw [CGA]<;> delta KY Dc GH HK FK KN PN FA AO AT CX AG CG CM EM BK DB hd48 DW DT QP PD RO FM YC DM GP EF GF KT WH NR Ie Ej Ll ARR iH CR CK AAT ABO cE Bs AE FQ AJ AP DR AK BO JQ bR DK AX AQ AH BH CY BN CL CZ CA KF DP FT GI AC BB ED IG CQ DF FP MX CF DG EN AW Cu AY ZJ Ma Et LW CJ DE DN AS EO EA DS DY GN MY LJ JM DV Ir BM MK KJ IA UQ JG JE IF VL cH Cv HD LL CB IK BA EZ NY Df BJ Bv QW DH TN EL NS Gu GA UX UY ZT SE OY Dl Dk aD UC YP Mw LP YH Ta sV Jm Xf Oi Kg SJ WW SO Hw Ke Nc Mg Nw Jz jW; simp only [CC, eq_self, implies_true, forall_const]
 have hl := BWH ⟨h.1, h.2.1, h.2.2.1⟩
 have hk : ∀ {i : Nat}, i < (Jb a).length -> 0 <= gD (Jb a) i /\ gD (Jb a) i < a.g.length := λ hi => hx _ (BHR (DU hi))
 have hm : ∀ i, (((Jb a).take i).map λ i => gD a.g i.toNat).length <= (Jb a).length := λ i => by simp; omega
 refine ⟨⟨h.1, h.2.1, h.2.2.1⟩, ⟨default, hl, λ i hi => CCO hi, by rw [hl]⟩, ⟨λ hlt => ⟨⟨by omega, by omega⟩, ⟨hk (by omega), by omega, by omega, by omega, by omega, by omega⟩, ⟨1, [gD a.g (gD (Jb a) 0).toNat]⟩, ⟨rfl, rfl, rfl, λ i hi => ?_⟩, ⟨by show 0 < 1; omega, by show 1 <= _; omega, ?_⟩, by show (Jb a).length - 1 < _; omega⟩, λ hge => ?_⟩, λ x ⟨x1, x2, x3⟩ => ⟨λ hlt => ⟨⟨by omega, by omega⟩, ⟨hk (by omega), by omega, λ h => (by cases h), ?_, ?_⟩, ⟨x.i + 1, x.l ++ [gD a.g (gD (Jb a) x.i).toNat]⟩, ⟨by simp, (EQ (by omega)).symm, by simp, BIK _ _⟩, ⟨by show 0 < x.i + 1; omega, by show x.i + 1 <= _; omega, ?_⟩, by show (Jb a).length - (x.i + 1) < _; omega⟩, λ hge => ?_⟩⟩
 ·have hi : i < 1 := hi
  rw [show i = 0 by omega]; exact ⟨rfl, rfl, rfl⟩
 ·show [gD a.g (gD (Jb a) 0).toNat] = ((Jb a).take 1).map _
  rw [SQ (by omega : 0 < (Jb a).length)]; rfl
 ·unfold pkM; rw [List.length_map]; omega
 ·have := hm x.i; rw [<- x3] at this; omega
 ·have := hm x.i; rw [<- x3] at this; omega
 ·show x.l ++ _ = ((Jb a).take (x.i + 1)).map _
  rw [SQ (by omega : x.i < (Jb a).length), List.map_append, x3]; rfl
 ·have : x.l = pkM a := by rw [x3, List.take_of_length_le (by omega)]; rfl
  rw [this]; exact ⟨rfl, Nat.le_refl _, λ _ _ => ⟨rfl, rfl, rfl⟩⟩
theorem BZE : AL Try.prog ACX (C_pk.spec dGPk) := Ih C_pk A_pk [] [201] BCZ (λ _ => by kernel_rfl) (λ _ => AF) (λ (a : GPk) h => by
 obtain ⟨h1, h2⟩ : (0 <= a.a /\ a.a <= a.b /\ a.b <= a.o.length /\ a.o.length < 1073741824) /\ ∀ x ∈ a.o, 0 <= x /\ x < a.g.length := h
 exact p_pk a h1 h2) (λ _ => Jf rfl rfl) _
end Go.Bal
