/- Package rating: what ties; gaugings that are picked. -/
import Derived.Test.YtoihhodbkimedaaGreatRatR
set_option linter.unusedVariables false
set_option linter.unusedSimpArgs false
namespace Go.Bal
open Go Go.Sym Go.Proofs
def C7 (a : GK) : Bool := bif (HQ a).2 then !(BL (HQ a).1).2 else false
def dKt : List AVal -> Heap -> Option (GK × List (Nat × Nat) × List Nat)
 | [x, .bptr id _], H => match Re x H, H id with
  | some (m, e), .live (.box [.d (.list _ n h _)]) => some (⟨AD n λ i => SD (h i), m⟩, [(100, id)], e)
  | _, _ => none
 | _, _ => none
def C_kt1 : Ctr := { ro := [100], α := GK, xs := λ a => [.d (BD a.k), .bptr 100 0], L := λ a => [(100, bxG a.g)], val := λ a => .bool (C7 a), keep := λ a => [(100, .live (bxG a.g))], pre := λ a => [(a.g.length < 1073741824 /\ a.k.length < 1073741824) /\ ∀ g ∈ a.g, Dd g] }
def BSK : Ann := { ann 17 [(J7, C_named.spec dGK), (Je, C_isKnot.spec dGsK)] with E := [100] }
def BTA (a : GK) : Prop := AO Try.prog BSK bS (AF bS) (C_kt1.xs a) (AC (C_kt1.L a)) (C_kt1.val a) (C_kt1.keep a) [] []
theorem BTX (a : GK) : (BTA a) = (((AD a.g.length λ (i : Nat) => gD a.g i).length = a.g.length /\ (∀ (i : Nat), i < (AD a.g.length λ (i : Nat) => gD a.g i).length -> (gD (AD a.g.length λ (i : Nat) => gD a.g
 i) i).st = (gD a.g i).st /\ (gD (AD a.g.length λ (i : Nat) => gD a.g i) i).lo = (gD a.g i).lo /\ (gD (AD a.g.length λ (i : Nat) => gD a.g i) i).hi = (gD a.g i).hi) /\ (AD a.k.length λ (i : Nat) => gD a.k i).length
 = a.k.length /\ (∀ (i : Nat), i < (AD a.k.length λ (i : Nat) => gD a.k i).length -> gD (AD a.k.length λ (i : Nat) => gD a.k i) i = gD a.k i) /\ (AD a.g.length λ (i : Nat) => gD a.g i).length < 1073741824 /\ (AD
 a.k.length λ (i : Nat) => gD a.k i).length < 1073741824) /\ ((HQ (GK.mk (AD a.g.length λ (i : Nat) => gD a.g i) (AD a.k.length λ (i : Nat) => gD a.k i))).snd = true -> (AD (HQ (GK.mk (AD a.g.length λ (i :
 Nat) => gD a.g i) (AD a.k.length λ (i : Nat) => gD a.k i))).fst.length λ (i : Nat) => gD (HQ (GK.mk (AD a.g.length λ (i : Nat) => gD a.g i) (AD a.k.length λ (i : Nat) => gD a.k i))).fst i).length = (HQ
 (GK.mk (AD a.g.length λ (i : Nat) => gD a.g i) (AD a.k.length λ (i : Nat) => gD a.k i))).fst.length /\ (∀ (i : Nat), i < (AD (HQ (GK.mk (AD a.g.length λ (i : Nat) => gD a.g i) (AD a.k.length λ (i : Nat) =>
 gD a.k i))).fst.length λ (i : Nat) => gD (HQ (GK.mk (AD a.g.length λ (i : Nat) => gD a.g i) (AD a.k.length λ (i : Nat) => gD a.k i))).fst i).length -> (gD (AD (HQ (GK.mk (AD a.g.length λ (i : Nat) => gD a.g
 i) (AD a.k.length λ (i : Nat) => gD a.k i))).fst.length λ (i : Nat) => gD (HQ (GK.mk (AD a.g.length λ (i : Nat) => gD a.g i) (AD a.k.length λ (i : Nat) => gD a.k i))).fst i) i).st = (gD (HQ (GK.mk (AD
 a.g.length λ (i : Nat) => gD a.g i) (AD a.k.length λ (i : Nat) => gD a.k i))).fst i).st /\ (gD (AD (HQ (GK.mk (AD a.g.length λ (i : Nat) => gD a.g i) (AD a.k.length λ (i : Nat) => gD a.k i))).fst.length fun
 (i : Nat) => gD (HQ (GK.mk (AD a.g.length λ (i : Nat) => gD a.g i) (AD a.k.length λ (i : Nat) => gD a.k i))).fst i) i).lo = (gD (HQ (GK.mk (AD a.g.length λ (i : Nat) => gD a.g i) (AD a.k.length λ (i : Nat)
 => gD a.k i))).fst i).lo /\ (gD (AD (HQ (GK.mk (AD a.g.length λ (i : Nat) => gD a.g i) (AD a.k.length λ (i : Nat) => gD a.k i))).fst.length λ (i : Nat) => gD (HQ (GK.mk (AD a.g.length λ (i : Nat) => gD a.g
 i) (AD a.k.length λ (i : Nat) => gD a.k i))).fst i) i).hi = (gD (HQ (GK.mk (AD a.g.length λ (i : Nat) => gD a.g i) (AD a.k.length λ (i : Nat) => gD a.k i))).fst i).hi) /\ (AD (HQ (GK.mk (AD a.g.length λ (i
 : Nat) => gD a.g i) (AD a.k.length λ (i : Nat) => gD a.k i))).fst.length λ (i : Nat) => gD (HQ (GK.mk (AD a.g.length λ (i : Nat) => gD a.g i) (AD a.k.length λ (i : Nat) => gD a.k i))).fst i).length <
 1073741824 /\ ∀ (g : Gau), List.Mem g (AD (HQ (GK.mk (AD a.g.length λ (i : Nat) => gD a.g i) (AD a.k.length λ (i : Nat) => gD a.k i))).fst.length λ (i : Nat) => gD (HQ (GK.mk (AD a.g.length λ (i : Nat) => gD
 a.g i) (AD a.k.length λ (i : Nat) => gD a.k i))).fst i) -> 0 <= g.st /\ g.st <= 2000 /\ 0 <= g.lo /\ g.lo <= g.hi /\ g.hi <= 200000) /\ (C7 a = bif (HQ (GK.mk (AD a.g.length λ (i : Nat) => gD a.g i) (AD a.k.length λ (i
 : Nat) => gD a.k i))).snd then !(BL (AD (HQ (GK.mk (AD a.g.length λ (i : Nat) => gD a.g i) (AD a.k.length λ (i : Nat) => gD a.k i))).fst.length λ (i : Nat) => gD (HQ (GK.mk (AD a.g.length λ (i : Nat) =>
 gD a.g i) (AD a.k.length λ (i : Nat) => gD a.k i))).fst i)).snd else false) /\ a.g.length = a.g.length /\ ∀ (i : Nat), i < a.g.length -> (gD a.g i).st = (gD a.g i).st /\ (gD a.g i).lo = (gD a.g i).lo /\ (gD a.g i).hi = (gD
 a.g i).hi) := by kernel_rfl
def knt3 (g : List Gau) (a b : Int) : List Int -> Option (List Int)
 | [] => none
 | c :: cs => bif C7 ⟨g, [a, b, c]⟩ then some [a, b, c] else knt3 g a b cs
def orO (x y : Option (List Int)) : Option (List Int) := match x with
 | some z => some z
 | none => y
def knt2 (g : List Gau) (a : Int) : List Int -> Option (List Int)
 | [] => none
 | b :: cs => bif C7 ⟨g, [a, b]⟩ then some [a, b] else orO (knt3 g a b cs) (knt2 g a cs)
def Qz (g : List Gau) : List Int -> Option (List Int)
 | [] => none
 | a :: bs => orO (knt2 g a bs) (Qz g bs)
def TY (a : GK) : List Int := (Qz a.g a.k).getD []
structure IJK where
 i : Nat
 j : Nat
 k : Nat
 deriving Inhabited
structure IJ2 where
 i : Nat
 j : Nat
 deriving Inhabited
def kdS (a : GK) (i : Nat) : List (Nat × AVal) := [(1, .d (BD a.k)), (5, .fn (.func YU) [] [.bptr 1000 0]), (13, .d (BD a.k)), (14, .int a.k.length), (15, .int i)]
def kdT (a : GK) (i j : Nat) : List (Nat × AVal) := kdS a i ++ [(6, .int i), (7, .int (gD a.k i)), (23, .d (BD (a.k.drop (i + 1)))), (24, .int (a.k.drop (i + 1)).length), (25, .int j)]
def kdH (a : GK) : List (Nat × HCell) := [(1000, .live (bxG a.g))]
def kd3 (a : GK) : Shape := { α := Nat, dflt := 0, T := λ i => ⟨kdS a i, kdH a⟩, inv := λ i => i <= a.k.length /\ Qz a.g a.k = Qz a.g (a.k.drop i), meas := λ i => a.k.length - i }
def kd6 (a : GK) (m : Nat) : Shape := { α := IJ2, dflt := default, T := λ x => ⟨kdT a x.i x.j, kdH a⟩, inv := λ x => a.k.length - x.i = m /\ x.i < a.k.length /\ x.j <= (a.k.drop (x.i + 1)).length /\ Qz a.g a.k = orO (knt2 a.g (gD a.k x.i) ((a.k.drop (x.i + 1)).drop x.j)) (Qz a.g (a.k.drop (x.i + 1))), meas := λ x => (a.k.drop (x.i + 1)).length - x.j }
def kd11 (a : GK) (m q : Nat) : Shape := { α := IJK, dflt := default, T := λ x => ⟨kdT a x.i x.j ++ [(9, .int (gD (a.k.drop (x.i + 1)) x.j)), (43, .d (BD (a.k.drop (x.i + x.j + 2)))), (44, .int (a.k.drop (x.i + x.j + 2)).length), (45, .int x.k)], kdH a⟩, inv := λ x => a.k.length - x.i = m /\ x.i < a.k.length /\ (a.k.drop (x.i + 1)).length - x.j = q /\ x.j < (a.k.drop (x.i + 1)).length /\ x.k <= (a.k.drop (x.i + x.j + 2)).length /\ Qz a.g a.k = orO (orO (knt3 a.g (gD a.k x.i) (gD (a.k.drop (x.i + 1)) x.j) ((a.k.drop (x.i + x.j + 2)).drop x.k)) (knt2 a.g (gD a.k x.i) (a.k.drop (x.i + x.j + 2)))) (Qz a.g (a.k.drop (x.i + 1))), meas := λ x => (a.k.drop (x.i + x.j + 2)).length - x.k }
def C_kd : Ctr := { α := GK, xs := xGK, L := λ _ => [], val := λ a => .d (BD (TY a)), keep := λ _ => [], pre := λ a => [(a.g.length < 1073741824 /\ a.k.length < 1073741824) /\ ∀ g ∈ a.g, Dd g] }
def A_kd (a : GK) : Ann := { ann 62 [(YU, C_kt1.spec dKt)] with md := λ id => if id = 8 then some (λ k => if k = 3 then 4 else 0) else if id = 9 then some (λ k => if k = 2 then 4 else 0) else if id = 13 then some (λ k => if k = 4 then 4 else 0) else if id = 14 then some (λ k => if k = 3 then 4 else 0) else none, loops := λ id => if id = 3 then some [kd3 a] else none, inner := λ gs id => if id = 6 then some [kd6 a (gs.getD 0 0)] else if id = 11 then some [kd11 a (gs.getD 1 0) (gs.getD 0 0)] else none }
def V_kd (a : GK) : Prop := AO Try.prog (A_kd a) nT (AF nT) (xGK a) (AC []) (C_kd.val a) [] [] []
abbrev LG (a : GK) : Prop := a.k.length = a.k.length
abbrev KV (a : GK) : Prop := ∀ (i : Nat), i < a.k.length -> gD a.k i = gD a.k i
abbrev Xl (a : GK) : Prop := (↑a.k.length : Int) = (↑a.k.length : Int)
abbrev bE (a : GK) : Prop := a.g.length = a.g.length /\ ∀ (i : Nat), i < a.g.length -> (gD a.g i).st = (gD a.g i).st /\ (gD a.g i).lo = (gD a.g i).lo /\ (gD a.g i).hi = (gD a.g i).hi
abbrev AOC (a : Nat) (a1 : GK) : Prop := a <= a1.k.length /\ Qz a1.g a1.k = Qz a1.g (List.drop a a1.k)
abbrev AVY (a : Nat) (a1 : GK) : Prop := (↑a : Int) < (↑a1.k.length : Int)
abbrev APL (a : Nat) : Int := IntKind.i64.wrap ((↑a : Int) + 1)
abbrev AYM (a : GK) : Prop := (↑a.k.length : Int) <= (↑a.k.length : Int)
abbrev AVP (a : IJ2) (a1 : Nat) : Prop := (↑a.i : Int) = (↑a1 : Int)
abbrev tR (a : IJ2) (a1 : GK) : List Int := List.drop (a.i + 1) a1.k
abbrev JK (a : IJ2) (a1 : GK) : Nat := (tR a a1).length
abbrev AKV (a : Nat) : Nat := (APL a).toNat
abbrev ALY (a : GK) (a1 : Nat) : Nat := a.k.length - AKV a1
abbrev AMP (i : Nat) (a : IJ2) (a1 : GK) : Prop := i < JK a a1
abbrev I4 (a : IJ2) (a1 : GK) (i : Nat) : Int := gD (tR a a1) i
abbrev kV (a : GK) (a1 : Nat) : Nat := a.k.length - a1
abbrev K5 (a : GK) (a1 : IJ2) (a2 : Nat) : Prop := a.k.length - a1.i = kV a a2 /\ a1.i < a.k.length /\ a1.j <= JK a1 a /\ Qz a.g a.k = orO (knt2 a.g (gD a.k a1.i) (List.drop a1.j (tR a1 a))) (Qz a.g
 (tR a1 a))
abbrev ALR (a : IJ2) (a1 : GK) : Prop := (↑a.j : Int) < (↑(JK a a1) : Int)
abbrev AOW (i : Nat) : Bool := decide (i = 0)
abbrev AQM (a : IJ2) (a1 : GK) : Int := gD (tR a a1) a.j
abbrev L4 (i : Nat) (a : GK) (a1 : IJ2) : Int := bif AOW i then gD a.k a1.i else AQM a1 a
abbrev J9 (a : GK) (a1 : IJ2) : List Int := AD 2 λ (i : Nat) => L4 i a a1
abbrev J0 (a : GK) (a1 : IJ2) : Nat := (J9 a a1).length
abbrev Pb (a : GK) : List Gau := AD a.g.length λ (i : Nat) => gD a.g i
abbrev hX (a : GK) : Nat := (Pb a).length
abbrev ANS (a : GK) : Prop := hX a = a.g.length
abbrev N0 (a : GK) (i : Nat) : Gau := gD (Pb a) i
abbrev ANZ (a : GK) (i : Nat) : Int := (N0 a i).st
abbrev ASR (a : GK) (i : Nat) : Int := (N0 a i).lo
abbrev ALU (a : GK) (i : Nat) : Int := (N0 a i).hi
abbrev AOP (a : GK) : Prop := ∀ (i : Nat), i < hX a -> ANZ a i = (gD a.g i).st /\ ASR a i = (gD a.g i).lo /\ ALU a i = (gD a.g i).hi
abbrev AMO (a : GK) : Prop := a.g.length = hX a
abbrev AKY (a : GK) : Prop := ∀ (i : Nat), i < a.g.length -> (gD a.g i).st = ANZ a i /\ (gD a.g i).lo = ASR a i /\ (gD a.g i).hi = ALU a i
abbrev ARX (a : GK) : Prop := hX a < 1073741824
abbrev AMI (a : GK) : Prop := ∀ (g : Gau), List.Mem g (Pb a) -> 0 <= g.st /\ g.st <= 2000 /\ 0 <= g.lo /\ g.lo <= g.hi /\ g.hi <= 200000
abbrev J3 (a : IJ2) : Int := IntKind.i64.wrap (IntKind.i64.wrap ((↑a.i : Int) + (↑a.j : Int)) + 2)
abbrev AOR (a : IJK) (a1 : IJ2) : Prop := (↑a.i : Int) = (↑a1.i : Int)
abbrev gO (a : IJK) (a1 : GK) : List Int := List.drop (a.i + 1) a1.k
abbrev HV (a : IJK) (a1 : GK) : Nat := (gO a a1).length
abbrev ANU (i : Nat) (a : IJK) (a1 : GK) : Prop := i < HV a a1
abbrev eI (a : IJK) (a1 : GK) (i : Nat) : Int := gD (gO a a1) i
abbrev Qq (a : IJK) (a1 : GK) : Int := gD (gO a a1) a.j
abbrev Oa (a : IJK) (a1 : GK) : List Int := List.drop (a.i + a.j + 2) a1.k
abbrev JV (a : IJK) (a1 : GK) : Nat := (Oa a a1).length
abbrev AMX (a : IJ2) : Nat := (J3 a).toNat
abbrev ANG (a : GK) (a1 : IJ2) : Nat := a.k.length - AMX a1
abbrev ASB (i : Nat) (a : IJK) (a1 : GK) : Prop := i < JV a a1
abbrev M5 (a : IJK) (a1 : GK) (i : Nat) : Int := gD (Oa a a1) i
abbrev I0 (a : IJ2) (a1 : GK) : Nat := JK a a1 - a.j
abbrev G8 (a : GK) (a1 : IJK) (a2 : Nat) (a3 : IJ2) : Prop := a.k.length - a1.i = kV a a2 /\ a1.i < a.k.length /\ HV a1 a - a1.j = I0 a3 a /\ a1.j < HV a1 a /\ a1.k <= JV a1 a /\ Qz a.g a.k =
 orO (orO (knt3 a.g (gD a.k a1.i) (Qq a1 a) (List.drop a1.k (Oa a1 a))) (knt2 a.g (gD a.k a1.i) (Oa a1 a))) (Qz a.g (gO a1 a))
abbrev AQK (a : IJK) (a1 : GK) : Prop := (↑a.k : Int) < (↑(JV a a1) : Int)
abbrev F9 (i : Nat) (a : GK) (a1 : IJK) : Int := bif AOW i then gD a.k a1.i else bif decide (i - 1 = 0) then Qq a1 a else gD (Oa a1 a) a1.k
abbrev L5 (a : GK) (a1 : IJK) : List Int := AD 3 λ (i : Nat) => F9 i a a1
abbrev N5 (a : GK) (a1 : IJK) : Nat := (L5 a a1).length
abbrev APN (a : IJK) (a1 : IJK) : Prop := (↑a.i : Int) = (↑a1.i : Int)
abbrev AQQ (a : IJK) (a1 : GK) : Nat := JV a a1 - a.k
abbrev ANY (a : IJ2) (a1 : IJK) : Prop := (↑a.i : Int) = (↑a1.i : Int)
abbrev ALO (a : GK) : Prop := (TY a).length = 0
theorem BYU (a : GK) : (V_kd a) = ((∃ (a_1 : Nat), (LG a /\ KV a /\ LG a /\ KV a /\ Xl a /\ (↑a_1 : Int) = 0 /\ bE a) /\ AOC a_1 a) /\ ∀ (a_1 : Nat), AOC a_1 a -> bif decide (AVY a_1 a) then (0
 <= (↑a_1 : Int) /\ AVY a_1 a) /\ (0 <= APL a_1 /\ APL a_1 <= (↑a.k.length : Int) /\ AYM a) /\ (∃ (a_3 : IJ2), (LG a /\ KV a /\ LG a /\ KV a /\ Xl a /\ AVP a_3 a_1 /\ AVP a_3 a_1 /\ gD a.k a_3.i =
 gD a.k a_1 /\ JK a_3 a = ALY a a_1 /\ (∀ (i : Nat), AMP i a_3 a -> I4 a_3 a i = gD a.k (AKV a_1 + i)) /\ (↑(JK a_3 a) : Int) = (↑(ALY a a_1) : Int) /\ (↑a_3.j : Int) = 0 /\ bE a) /\ K5 a
 a_3 a_1) /\ ∀ (a_3 : IJ2), K5 a a_3 a_1 -> bif decide (ALR a_3 a) then (0 <= (↑a_3.j : Int) /\ ALR a_3 a) /\ (J0 a a_3 = 2 /\ (∀ (i : Nat), i < J0 a a_3 -> gD (J9 a a_3) i = L4 i a a_3) /\
 ANS a /\ AOP a /\ AMO a /\ AKY a /\ (ARX a /\ J0 a a_3 < 1073741824) /\ AMI a) /\ bif C7 (GK.mk (Pb a) (J9 a a_3)) then (TY a).length = 2 /\ ∀ (i : Nat), i < (TY a).length -> gD (TY
 a) i = L4 i a a_3 else (0 <= J3 a_3 /\ J3 a_3 <= (↑a.k.length : Int) /\ AYM a) /\ (∃ (a_5 : IJK), (LG a /\ KV a /\ LG a /\ KV a /\ Xl a /\ AOR a_5 a_3 /\ AOR a_5 a_3 /\ gD a.k a_5.i = gD
 a.k a_3.i /\ HV a_5 a = JK a_3 a /\ (∀ (i : Nat), ANU i a_5 a -> eI a_5 a i = I4 a_3 a i) /\ (↑(HV a_5 a) : Int) = (↑(JK a_3 a) : Int) /\ (↑a_5.j : Int) = (↑a_3.j : Int) /\ Qq a_5 a =
 AQM a_3 a /\ JV a_5 a = ANG a a_3 /\ (∀ (i : Nat), ASB i a_5 a -> M5 a_5 a i = gD a.k (AMX a_3 + i)) /\ (↑(JV a_5 a) : Int) = (↑(ANG a a_3) : Int) /\ (↑a_5.k : Int) = 0 /\ bE a) /\ G8
 a a_5 a_1 a_3) /\ ∀ (a_5 : IJK), G8 a a_5 a_1 a_3 -> bif decide (AQK a_5 a) then (0 <= (↑a_5.k : Int) /\ AQK a_5 a) /\ (N5 a a_5 = 3 /\ (∀ (i : Nat), i < N5 a a_5 -> gD (L5 a a_5) i = F9 i a
 a_5) /\ ANS a /\ AOP a /\ AMO a /\ AKY a /\ (ARX a /\ N5 a a_5 < 1073741824) /\ AMI a) /\ bif C7 (GK.mk (Pb a) (L5 a a_5)) then (TY a).length = 3 /\ ∀ (i : Nat), i < (TY a).length ->
 gD (TY a) i = F9 i a a_5 else ∃ (a_7 : IJK), (LG a /\ KV a /\ LG a /\ KV a /\ Xl a /\ APN a_7 a_5 /\ APN a_7 a_5 /\ gD a.k a_7.i = gD a.k a_5.i /\ HV a_7 a = HV a_5 a /\ (∀ (i : Nat),
 ANU i a_7 a -> eI a_7 a i = eI a_5 a i) /\ (↑(HV a_7 a) : Int) = (↑(HV a_5 a) : Int) /\ (↑a_7.j : Int) = (↑a_5.j : Int) /\ Qq a_7 a = Qq a_5 a /\ JV a_7 a = JV a_5 a /\ (∀ (i : Nat),
 ASB i a_7 a -> M5 a_7 a i = M5 a_5 a i) /\ (↑(JV a_7 a) : Int) = (↑(JV a_5 a) : Int) /\ (↑a_7.k : Int) = IntKind.i64.wrap ((↑a_5.k : Int) + 1) /\ bE a) /\ G8 a a_7 a_1 a_3 /\ AQQ a_7 a <
 AQQ a_5 a else ∃ (a_7 : IJ2), (LG a /\ KV a /\ LG a /\ KV a /\ Xl a /\ ANY a_7 a_5 /\ ANY a_7 a_5 /\ gD a.k a_7.i = gD a.k a_5.i /\ JK a_7 a = HV a_5 a /\ (∀ (i : Nat), AMP i a_7 a ->
 I4 a_7 a i = eI a_5 a i) /\ (↑(JK a_7 a) : Int) = (↑(HV a_5 a) : Int) /\ (↑a_7.j : Int) = IntKind.i64.wrap ((↑a_5.j : Int) + 1) /\ bE a) /\ K5 a a_7 a_1 /\ I0 a_7 a < I0 a_3 a else ∃
 (a_5 : Nat), (LG a /\ KV a /\ LG a /\ KV a /\ Xl a /\ (↑a_5 : Int) = IntKind.i64.wrap ((↑a_3.i : Int) + 1) /\ bE a) /\ AOC a_5 a /\ kV a a_5 < kV a a_1 else ALO a /\ ALO a) := by
 kernel_rfl
structure GPk where
 g : List Gau
 o : List Int
 a : Int
 b : Int
def dGPk : List AVal -> Heap -> Option (GPk × List (Nat × Nat) × List Nat)
 | [.d x, .d y, .bptr c _, .bptr id _], H => match H id, H c with
  | .live (.box [.d (.list _ n h _)]), .live (.box [.d (.list _ m r _)]) => some (⟨AD n λ i => SD (h i), AD m λ i => CT (r i), CT x, CT y⟩, [(100, id), (101, c)], [])
  | _, _ => none
 | _, _ => none
def OH (a : GPk) : List Int := (a.o.take a.b.toNat).drop a.a.toNat
def pkM (a : GPk) : List Gau := (OH a).map λ i => gD a.g i.toNat
def pkH (a : GPk) : List (Nat × HCell) := [(101, .live (.box [.d (BD a.o)])), (100, .live (bxG a.g))]
def pk3n (a : GPk) : Shape := { α := One, dflt := default, T := λ _ => ⟨[(3, .bptr 100 0), (7, .d PQ), (13, .d (BD (OH a))), (14, .int (OH a).length), (15, .int 0)], pkH a⟩, inv := λ _ => True, meas := λ _ => (OH a).length + 1 }
def pk3o (a : GPk) : Shape := { α := GsK, dflt := default, T := λ x => ⟨[(3, .bptr 100 0), (7, .own 201 3 0 x.l.length), (13, .d (BD (OH a))), (14, .int (OH a).length), (15, .int x.i)], pkH a ++ [(201, .live (rowG x.l))]⟩, inv := λ x => 1 <= x.i /\ x.i <= (OH a).length /\ x.l = ((OH a).take x.i).map λ i => gD a.g i.toNat, meas := λ x => (OH a).length - x.i, again := [(201, 6096)] }
def C_pk : Ctr := { ro := [100, 101], α := GPk, xs := λ a => [.int a.a, .int a.b, .bptr 101 0, .bptr 100 0], L := λ a => [(101, .box [.d (BD a.o)]), (100, bxG a.g)], val := λ a => .d (BE (pkM a)), keep := pkH, pre := λ a => [(0 <= a.a /\ a.a <= a.b /\ a.b <= a.o.length /\ a.o.length < 1073741824) /\ ∀ x ∈ a.o, 0 <= x /\ x < a.g.length] }
def A_pk (a : GPk) : Ann := { ann 28 [] with E := [101, 100], mt := λ id => id == 5, loops := λ id => if id = 3 then some [pk3n a, pk3o a] else none }
def V_pk (a : GPk) : Prop := AO Try.prog (A_pk a) uC (AF uC) (C_pk.xs a) (AC (C_pk.L a)) (C_pk.val a) (C_pk.keep a) [] [201]
abbrev ANT : Prop := (0 : Nat) = (0 : Nat)
abbrev AVU (a : GPk) : Nat := a.b.toNat - a.a.toNat
abbrev AOS (a : GPk) : Prop := a.o.length = a.o.length
abbrev ASQ (a : GPk) : Prop := ∀ (i : Nat), i < a.o.length -> gD a.o i = gD a.o i
abbrev ART (a : GPk) : Prop := a.g.length = a.g.length
abbrev ARI (a : GPk) : Prop := ∀ (i : Nat), i < a.g.length -> (gD a.g i).st = (gD a.g i).st /\ (gD a.g i).lo = (gD a.g i).lo /\ (gD a.g i).hi = (gD a.g i).hi
abbrev ARR (a : GPk) : Prop := AOS a /\ ASQ a /\ ART a /\ ARI a
abbrev AXT (a : GPk) : Prop := (0 : Int) < (↑(OH a).length : Int)
abbrev AXO (a : GPk) : Int := gD (OH a) (0 : Nat)
abbrev APP : Prop := (0 : Nat) < (1 : Nat)
abbrev AKU : Prop := (3 : Nat) = (3 : Nat)
abbrev ANP : Prop := (1 : Nat) <= (1 : Nat) /\ (APP -> AKU)
abbrev ARK (a : GsK) : Prop := a.l.length = (1 : Nat)
abbrev APX (a : GPk) : Prop := (OH a).length = (OH a).length
abbrev ASS (a : GPk) : Prop := ∀ (i : Nat), i < (OH a).length -> gD (OH a) i = gD (OH a) i
abbrev ASO (a : GPk) : Prop := (↑(OH a).length : Int) = (↑(OH a).length : Int)
abbrev K9 (a : GPk) : Gau := gD a.g (gD (OH a) (Int.toNat (0 : Int))).toNat
abbrev H5 (a : GsK) (a1 : GPk) : Prop := (1 : Nat) <= a.i /\ a.i <= (OH a1).length /\ a.l = List.map (λ (i : Int) => gD a1.g i.toNat) (List.take a.i (OH a1))
abbrev L6 (a : GPk) (a1 : GsK) : Nat := (OH a).length - a1.i
abbrev ASI (a : GPk) : Prop := (pkM a).length = (0 : Nat)
abbrev ASK (a : GsK) (a1 : GPk) : Prop := (↑a.i : Int) < (↑(OH a1).length : Int)
abbrev M9 (a : GsK) : Nat := a.l.length + (1 : Nat)
abbrev AOX (a : GsK) (a1 : GsK) : Prop := a.l.length = M9 a1
abbrev L0 (i : Nat) (a : GsK) : Bool := decide (i < a.l.length)
abbrev M6 (a : GPk) (a1 : GsK) : Gau := gD a.g (gD (OH a) a1.i).toNat
abbrev J6 (a : GsK) (j : Nat) : Gau := gD a.l ((0 : Nat) + j)
theorem BZF (a : GPk) : (V_pk a) = (((0 : Int) <= a.a /\ a.a <= a.b /\ a.b <= (↑a.o.length : Int)) /\ (∃ (a_1 : One), (ANT /\ (∀ (i : Nat), i < (0 : Nat) -> false = false) /\ (OH a).length = AVU a /\ (∀ (i : Nat), i <
 (OH a).length -> gD (OH a) i = gD a.o (a.a.toNat + i)) /\ (↑(OH a).length : Int) = (↑(AVU a) : Int) /\ Int.ofNat (0 : Nat) = Int.ofNat (0 : Nat) /\ ARR a) /\ True) /\ (∀ (a_1 : One), True -> bif decide (AXT a) then
 ((0 : Int) <= (0 : Int) /\ AXT a) /\ (((0 : Int) <= AXO a /\ AXO a < (↑a.g.length : Int)) /\ (True /\ ((0 : Nat) < (0 : Nat) -> (0 : Nat) = (3 : Nat))) /\ ANP /\ (true = true -> APP) /\ (1 : Nat) <=
 (9223372036854775807 : Nat) /\ (24 : Nat) <= (140737488355328 : Nat)) /\ ∃ (a_3 : GsK), (ANT /\ ARK a_3 /\ APX a /\ ASS a /\ ASO a /\ (↑a_3.i : Int) = IntKind.i64.wrap ((0 : Int) + (1 : Int)) /\ AOS a /\
 ASQ a /\ ART a /\ ARI a /\ ARK a_3 /\ ∀ (i : Nat), i < a_3.l.length -> (gD a_3.l i).st = (K9 a).st /\ (gD a_3.l i).lo = (K9 a).lo /\ (gD a_3.l i).hi = (K9 a).hi) /\ H5 a_3 a /\ L6 a a_3 <
 (OH a).length + (1 : Nat) else ASI a /\ ASI a /\ ARR a) /\ ∀ (a_1 : GsK), H5 a_1 a -> bif decide (ASK a_1 a) then ((0 : Int) <= (↑a_1.i : Int) /\ ASK a_1 a) /\ (((0 : Int) <= gD (OH a) a_1.i /\ gD (OH
 a) a_1.i < (↑a.g.length : Int)) /\ (a_1.l.length = a_1.l.length /\ ((0 : Nat) < a_1.l.length -> AKU)) /\ ANP /\ (false = true -> APP) /\ M9 a_1 <= (9223372036854775807 : Nat) /\ M9 a_1 * (24 : Nat) <=
 (140737488355328 : Nat)) /\ ∃ (a_3 : GsK), (ANT /\ AOX a_3 a_1 /\ APX a /\ ASS a /\ ASO a /\ (↑a_3.i : Int) = IntKind.i64.wrap ((↑a_1.i : Int) + (1 : Int)) /\ AOS a /\ ASQ a /\ ART a /\ ARI a /\
 AOX a_3 a_1 /\ ∀ (i : Nat), i < a_3.l.length -> ((gD a_3.l i).st = bif L0 i a_1 then (gD a_1.l i).st else (M6 a a_1).st) /\ ((gD a_3.l i).lo = bif L0 i a_1 then (gD a_1.l i).lo else (M6 a a_1).lo) /\
 (gD a_3.l i).hi = bif L0 i a_1 then (gD a_1.l i).hi else (M6 a a_1).hi) /\ H5 a_3 a /\ L6 a a_3 < L6 a a_1 else (pkM a).length = a_1.l.length /\ (0 : Nat) + a_1.l.length <= a_1.l.length /\ (∀ (j :
 Nat), j < (pkM a).length -> (gD (pkM a) j).st = (J6 a_1 j).st /\ (gD (pkM a) j).lo = (J6 a_1 j).lo /\ (gD (pkM a) j).hi = (J6 a_1 j).hi) /\ ARR a) := by kernel_rfl
theorem BWB : AG Try.prog YU (C_kt1.spec dKt) := GD C_kt1 (λ _ => BSK) [] [] AST (λ _ => by kernel_rfl) (λ _ => AB ATP (AB xG AE)) (λ (a : GK) h => by
 show BTA a; rw [BTX]; simp only [CC, eq_self, implies_true, forall_const]
 obtain ⟨⟨h1, h2⟩, h3⟩ : (a.g.length < 1073741824 /\ a.k.length < 1073741824) /\ ∀ g ∈ a.g, Dd g := h
 exact ⟨⟨h1, h2⟩, λ _ => BFB h3 h1, rfl⟩) (λ _ => GJ rfl rfl) _
theorem S6 {l : List Int} {i : Nat} (h : i < l.length) : l.drop i = gD l i :: l.drop (i + 1) := by
 rw [List.drop_eq_getElem_cons h]; simp [gD, List.getD_eq_getElem?_getD, h]
theorem Bv (l : List Int) (i j : Nat) : gD (l.drop i) j = gD l (i + j) := by
 simp [gD, List.getD_eq_getElem?_getD]
theorem rng2 (a b : Int) : (AD 2 λ i => bif decide (i = 0) then a else b) = [a, b] := rfl
theorem rng3 (a b c : Int) : (AD 3 λ i => bif decide (i = 0) then a else bif decide (i - 1 = 0) then b else c) = [a, b, c] := rfl
theorem all2 (a b : Int) : ∀ i, i < 2 -> gD [a, b] i = bif decide (i = 0) then a else b := λ i hi => by
 match i, hi with
 | 0, _ => rfl
 | 1, _ => rfl
theorem all3 (a b c : Int) : ∀ i, i < 3 -> gD [a, b, c] i = bif decide (i = 0) then a else bif decide (i - 1 = 0) then b else c := λ i hi => by
 match i, hi with
 | 0, _ => rfl
 | 1, _ => rfl
 | 2, _ => rfl
theorem BUT (g : List Gau) (a : Int) (bs : List Int) : Qz g (a :: bs) = orO (knt2 g a bs) (Qz g bs) := rfl
theorem BTJ (g : List Gau) (a b : Int) (cs : List Int) : knt2 g a (b :: cs) = bif C7 ⟨g, [a, b]⟩ then some [a, b] else orO (knt3 g a b cs) (knt2 g a cs) := rfl
theorem BTZ (g : List Gau) (a b c : Int) (cs : List Int) : knt3 g a b (c :: cs) = bif C7 ⟨g, [a, b, c]⟩ then some [a, b, c] else knt3 g a b cs := rfl
theorem p_kd (a : GK) (h1 : a.g.length < 1073741824) (h2 : a.k.length < 1073741824) (h3 : ∀ g ∈ a.g, Dd g) : V_kd a := by
 rw [BYU]; delta LG KV Xl bE AOC AVY APL AYM AVP tR JK AKV ALY AMP I4 kV K5 ALR AOW AQM L4 J9 J0 Pb hX ANS N0 ANZ ASR ALU AOP AMO AKY ARX AMI J3 AOR gO HV ANU eI Qq Oa JV AMX ANG ASB M5 I0 G8 AQK F9 L5 N5 APN AQQ ANY ALO; simp only [CC, eq_self, implies_true, forall_const, List.length_drop, rng2, rng3]
 refine ⟨⟨0, rfl, Nat.zero_le _, rfl⟩, λ i ⟨hi, hI⟩ => ⟨λ hlt => ?_, λ hge => ?_⟩⟩
 ·have hlt : i < a.k.length := Int.ofNat_lt.1 hlt
  rw [BH (by omega)]
  simp only [Int.toNat_natCast]
  rw [S6 hlt, BUT] at hI
  refine ⟨⟨by omega, by omega⟩, ⟨by omega, by omega, Int.le_refl _⟩, ⟨⟨i, 0⟩, ⟨rfl, rfl, rfl, rfl, λ j hj => Bv _ _ _, rfl, rfl⟩, rfl, hlt, Nat.zero_le _, hI⟩, λ x ⟨x1, x2, x3, x4⟩ => ⟨λ hj => ?_, λ hj => ?_⟩⟩
  ·have hj : x.j < a.k.length - (x.i + 1) := Int.ofNat_lt.1 hj
   have hxi : x.i = i := by omega
   have e : (IntKind.i64.wrap (IntKind.i64.wrap ((x.i : Int) + x.j) + 2)) = ((x.i + x.j + 2 : Nat) : Int) := by
    rw [HM (n := (x.i : Int) + x.j) (by omega) (by omega), HM (by omega) (by omega)]; omega
   rw [S6 (l := a.k.drop (x.i + 1)) (by rw [List.length_drop]; omega), List.drop_drop, show x.i + 1 + (x.j + 1) = x.i + x.j + 2 by omega, BTJ] at x4
   refine ⟨⟨by omega, by omega⟩, ⟨rfl, all2 _ _, ⟨h1, by show 2 < 1073741824; omega⟩, h3⟩, λ ht => ?_, λ ht => ?_⟩
   ·rw [ht] at x4
    have ek : TY a = [gD a.k x.i, gD (a.k.drop (x.i + 1)) x.j] := by unfold TY; rw [x4]; rfl
    rw [ek]; exact ⟨rfl, all2 _ _⟩
   ·rw [ht] at x4
    rw [e]; simp only [Int.toNat_natCast]
    refine ⟨⟨by omega, by omega, Int.le_refl _⟩, ⟨⟨x.i, x.j, 0⟩, ⟨rfl, rfl, rfl, rfl, λ _ _ => rfl, rfl, rfl, rfl, rfl, λ j hj => Bv _ _ _, rfl, rfl⟩, x1, x2, rfl, hj, Nat.zero_le _, x4⟩, λ y ⟨y1, y2, y3, y4, y5, y6⟩ => ⟨λ hk => ?_, λ hk => ?_⟩⟩
    ·have hk : y.k < a.k.length - (y.i + y.j + 2) := Int.ofNat_lt.1 hk
     rw [S6 (l := a.k.drop (y.i + y.j + 2)) (by rw [List.length_drop]; omega), BTZ] at y6
     refine ⟨⟨by omega, by omega⟩, ⟨rfl, all3 _ _ _, ⟨h1, by show 3 < 1073741824; omega⟩, h3⟩, λ ht => ?_, λ ht => ?_⟩
     ·rw [ht] at y6
      have ek : TY a = [gD a.k y.i, gD (a.k.drop (y.i + 1)) y.j, gD (a.k.drop (y.i + y.j + 2)) y.k] := by unfold TY; rw [y6]; rfl
      rw [ek]; exact ⟨rfl, all3 _ _ _⟩
     ·rw [ht] at y6
      exact ⟨⟨y.i, y.j, y.k + 1⟩, ⟨rfl, rfl, rfl, rfl, λ _ _ => rfl, rfl, rfl, rfl, rfl, λ _ _ => rfl, rfl, (BH (by omega)).symm⟩, ⟨y1, y2, y3, y4, by show y.k + 1 <= a.k.length - (y.i + y.j + 2); omega, y6⟩, by show a.k.length - (y.i + y.j + 2) - (y.k + 1) < _; omega⟩
    ·have hk : a.k.length - (y.i + y.j + 2) <= y.k := by omega
     rw [List.drop_of_length_le (l := a.k.drop (y.i + y.j + 2)) (by rw [List.length_drop]; omega)] at y6
     refine ⟨⟨y.i, y.j + 1⟩, ⟨rfl, rfl, rfl, rfl, λ _ _ => rfl, rfl, (BH (by omega)).symm⟩, ⟨y1, y2, by show y.j + 1 <= a.k.length - (y.i + 1); omega, ?_⟩, by show a.k.length - (y.i + 1) - (y.j + 1) < _; omega⟩
     show _ = orO (knt2 a.g (gD a.k y.i) ((a.k.drop (y.i + 1)).drop (y.j + 1))) _
     rw [List.drop_drop, show y.i + 1 + (y.j + 1) = y.i + y.j + 2 by omega]; exact y6
  ·have hj : a.k.length - (x.i + 1) <= x.j := by omega
   rw [List.drop_of_length_le (l := a.k.drop (x.i + 1)) (by rw [List.length_drop]; omega)] at x4
   exact ⟨x.i + 1, (BH (by omega)).symm, ⟨by omega, x4⟩, by omega⟩
 ·rw [List.drop_of_length_le (by omega)] at hI
  have ek : TY a = [] := by unfold TY; rw [hI]; rfl
  rw [ek]; rfl
theorem BYM : AG Try.prog sT (C_kd.spec dGK) := GD C_kd A_kd [] [] AXF (λ _ => by kernel_rfl) (λ _ => AB BWB AE) (λ (a : GK) h => by
 obtain ⟨⟨h1, h2⟩, h3⟩ : (a.g.length < 1073741824 /\ a.k.length < 1073741824) /\ ∀ g ∈ a.g, Dd g := h
 exact p_kd a h1 h2 h3) (λ _ => GJ rfl rfl) _
theorem BPT {a : GPk} (h : 0 <= a.a /\ a.a <= a.b /\ a.b <= a.o.length) : (OH a).length = a.b.toNat - a.a.toNat := by
 unfold OH; rw [List.length_drop, List.length_take]; omega
theorem BTR {a : GPk} {i : Nat} (h : i < (OH a).length) : gD (OH a) i = gD a.o (a.a.toNat + i) := by
 unfold OH at *
 rw [Bv]
 rw [List.length_drop, List.length_take] at h
 simp [gD, List.getD_eq_getElem?_getD, List.getElem?_take, show a.a.toNat + i < a.b.toNat by omega]
theorem AZG {a : GPk} {x : Int} (h : x ∈ OH a) : x ∈ a.o := List.mem_of_mem_take (List.mem_of_mem_drop h)
theorem p_pk (a : GPk) (h : 0 <= a.a /\ a.a <= a.b /\ a.b <= a.o.length /\ a.o.length < 1073741824) (hx : ∀ x ∈ a.o, 0 <= x /\ x < a.g.length) : V_pk a := by
 rw [BZF]; delta ANT AVU AOS ASQ ART ARI ARR AXT AXO APP AKU ANP ARK APX ASS ASO K9 H5 L6 ASI ASK M9 AOX L0 M6 J6; simp only [CC, eq_self, implies_true, forall_const]
 have hl := BPT ⟨h.1, h.2.1, h.2.2.1⟩
 have hk : ∀ {i : Nat}, i < (OH a).length -> 0 <= gD (OH a) i /\ gD (OH a) i < a.g.length := λ hi => hx _ (AZG (EG hi))
 have hm : ∀ i, (((OH a).take i).map λ i => gD a.g i.toNat).length <= (OH a).length := λ i => by simp; omega
 refine ⟨⟨h.1, h.2.1, h.2.2.1⟩, ⟨default, hl, λ i hi => BTR hi, by rw [hl]⟩, ⟨λ hlt => ⟨⟨by omega, by omega⟩, ⟨hk (by omega), by omega, by omega, by omega, by omega, by omega⟩, ⟨1, [gD a.g (gD (OH a) 0).toNat]⟩, ⟨rfl, rfl, rfl, λ i hi => ?_⟩, ⟨by show 0 < 1; omega, by show 1 <= _; omega, ?_⟩, by show (OH a).length - 1 < _; omega⟩, λ hge => ?_⟩, λ x ⟨x1, x2, x3⟩ => ⟨λ hlt => ⟨⟨by omega, by omega⟩, ⟨hk (by omega), by omega, λ h => (by cases h), ?_, ?_⟩, ⟨x.i + 1, x.l ++ [gD a.g (gD (OH a) x.i).toNat]⟩, ⟨by simp, (BH (by omega)).symm, by simp, BGW _ _⟩, ⟨by show 0 < x.i + 1; omega, by show x.i + 1 <= _; omega, ?_⟩, by show (OH a).length - (x.i + 1) < _; omega⟩, λ hge => ?_⟩⟩
 ·have hi : i < 1 := hi
  rw [show i = 0 by omega]; exact ⟨rfl, rfl, rfl⟩
 ·show [gD a.g (gD (OH a) 0).toNat] = ((OH a).take 1).map _
  rw [DG (by omega : 0 < (OH a).length)]; rfl
 ·unfold pkM; rw [List.length_map]; omega
 ·have := hm x.i; rw [<- x3] at this; omega
 ·have := hm x.i; rw [<- x3] at this; omega
 ·show x.l ++ _ = ((OH a).take (x.i + 1)).map _
  rw [DG (by omega : x.i < (OH a).length), List.map_append, x3]; rfl
 ·have : x.l = pkM a := by rw [x3, List.take_of_length_le (by omega)]; rfl
  rw [this]; exact ⟨rfl, Nat.le_refl _, λ _ _ => ⟨rfl, rfl, rfl⟩⟩
theorem BYI : AG Try.prog oZ (C_pk.spec dGPk) := GD C_pk A_pk [] [201] AYA (λ _ => by kernel_rfl) (λ _ => AE) (λ (a : GPk) h => by
 obtain ⟨h1, h2⟩ : (0 <= a.a /\ a.a <= a.b /\ a.b <= a.o.length /\ a.o.length < 1073741824) /\ ∀ x ∈ a.o, 0 <= x /\ x < a.g.length := h
 exact p_pk a h1 h2) (λ _ => GJ rfl rfl) _
end Go.Bal
