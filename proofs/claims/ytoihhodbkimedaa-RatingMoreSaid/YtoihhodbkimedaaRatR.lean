/- Package rating: the order of gaugings. -/
import Derived.Test.YtoihhodbkimedaaRatQ
set_option linter.unusedVariables false
set_option linter.unusedSimpArgs false
namespace Go.Bal
open Go Go.Sym Go.Proofs
structure GAB where
 g : List Gau
 a : Int
 b : Int
def keyG (g : List Gau) (x : Int) : Int := (gD g x.toNat).st
def bxG (g : List Gau) : AObj := .box [.d (eGaus g)]
def dGAB : List AVal -> Heap -> Option (GAB × List (Nat × Nat) × List Nat)
 | [.d x, .d y, .bptr id _], H => match H id with
  | .live (.box [.d (.list _ n h _)]) => some (⟨rng n λ i => dGau (h i), dInt x, dInt y⟩, [(100, id)], [])
  | _ => none
 | _, _ => none
def C_fw1 : Ctr := { ro := [100], α := GAB, xs := λ a => [.int a.a, .int a.b, .bptr 100 0], L := λ a => [(100, bxG a.g)], val := λ a => .int (cmpM (keyG a.g a.a) (keyG a.g a.b)), keep := λ a => [(100, .live (bxG a.g))], pre := λ a => [(0 <= a.a /\ a.a < a.g.length) /\ 0 <= a.b /\ a.b < a.g.length] }
def A_fw1 : Ann := { ann 17 [(n_cmpI, s_cmpI)] with E := [100] }
def V_fw1 (a : GAB) : Prop := fnVC Try.prog A_fw1 F_fewest1 (bodyOf F_fewest1) (C_fw1.xs a) (heapOf (C_fw1.L a)) (C_fw1.val a) (C_fw1.keep a) [] []
theorem vc_fw1 (a : GAB) : (V_fw1 a) = (((0 <= a.a /\ a.a < (↑a.g.length : Int)) /\ 0 <= a.b /\ a.b < (↑a.g.length : Int)) /\ cmpM (keyG a.g a.a) (keyG a.g a.b) = cmpM (gD a.g a.a.toNat).st (gD a.g a.b.toNat).st /\ a.g.length =
 a.g.length /\ ∀ (i : Nat), i < a.g.length -> (gD a.g i).st = (gD a.g i).st /\ (gD a.g i).lo = (gD a.g i).lo /\ (gD a.g i).hi = (gD a.g i).hi) := by kernel_rfl
def rowI (l : List Int) : AObj := .row 1 l.length λ i => eInt (gD l i)
def rowIn (n : Nat) (l : List Int) : AObj := .row 1 n λ i => eInt (gD l i)
def swL (l : List Int) (j : Nat) : List Int := (l.set j (gD l (j + 1))).set (j + 1) (gD l j)
def insJ (key : Int -> Int) : Nat -> List Int -> List Int
 | 0, l => l
 | j + 1, l => bif decide (cmpM (key (gD l (j + 1))) (key (gD l j)) < 0) then insJ key j (swL l j) else l
def stR (key : Int -> Int) : Nat -> Nat -> List Int -> List Int
 | 0, _, l => l
 | n + 1, i, l => stR key n (i + 1) (insJ key i l)
def stM (key : Int -> Int) (l : List Int) : List Int := stR key (l.length - 1) 1 l
structure GL where
 g : List Gau
 l : List Int
 a : Int
 b : Int
structure IL2 where
 i : Nat
 l : List Int
 deriving Inhabited
structure IJL where
 i : Nat
 j : Nat
 l : List Int
 deriving Inhabited
def fnW1 : AVal := .fn (.func n_fewest1) [] [.bptr 101 0]
def glK (a : GL) (l : List Int) : List (Nat × HCell) := [(100, .live (rowIn a.l.length l)), (101, .live (bxG a.g))]
def glIn (a : GL) (l : List Int) : Prop := l.length = a.l.length /\ ∀ i, i < a.l.length -> 0 <= gD l i /\ gD l i < a.g.length
def glOk (a : GL) : Prop := a.l.length < 1073741824 /\ ∀ i, i < a.l.length -> 0 <= gD a.l i /\ gD a.l i < a.g.length
def dGL : List AVal -> Heap -> Option (GL × List (Nat × Nat) × List Nat)
 | [.own id _ _ n, .d x, .d y, .fn (.func f) [] [.bptr c _]], H => if f = n_fewest1 then match H id, H c with
  | .live (.row _ m r), .live (.box [.d (.list _ k h _)]) => some (⟨rng k λ i => dGau (h i), rng n λ i => dInt (r i), dInt x, dInt y⟩, [(100, id), (101, c)], [])
  | _, _ => none else none
 | _, _ => none
def C_ins : Ctr := { ro := [101], α := GL, xs := λ a => [.own 100 1 0 a.l.length, .int a.a, .int a.b, fnW1], L := λ a => [(100, rowI a.l), (101, bxG a.g)], val := λ _ => .d (.tup []), keep := λ a => glK a (stM (keyG a.g) a.l), pre := λ a => [(a.a = 0 /\ a.b = a.l.length) /\ glOk a] }
def ins1 (a : GL) : Shape := { α := IL2, dflt := default, T := λ x => ⟨[(0, .own 100 1 0 a.l.length), (1, .int 0), (2, .int a.l.length), (3, fnW1), (8, .int x.i)], glK a x.l⟩, inv := λ x => 1 <= x.i /\ (x.i <= a.l.length ∨ x.i = 1) /\ glIn a x.l /\ stM (keyG a.g) a.l = stR (keyG a.g) (a.l.length - x.i) x.i x.l, meas := λ x => a.l.length - x.i }
def ins4 (a : GL) (m : Nat) : Shape := { α := IJL, dflt := default, T := λ x => ⟨[(0, .own 100 1 0 a.l.length), (1, .int 0), (2, .int a.l.length), (3, fnW1), (8, .int x.i), (9, .int x.j)], glK a x.l⟩, inv := λ x => a.l.length - x.i = m /\ 1 <= x.i /\ x.i < a.l.length /\ x.j <= x.i /\ glIn a x.l /\ stM (keyG a.g) a.l = stR (keyG a.g) (a.l.length - (x.i + 1)) (x.i + 1) (insJ (keyG a.g) x.j x.l), meas := λ x => x.j }
def A_ins (a : GL) : Ann := { ann 53 [(n_fewest1, C_fw1.spec dGAB)] with E := [100, 101], loops := λ id => if id = 1 then some [ins1 a] else none, inner := λ gs id => if id = 4 then some [ins4 a (gs.getD 0 0)] else none }
def V_ins (a : GL) : Prop := fnVC Try.prog (A_ins a) F_insI (bodyOf F_insI) [.own 100 1 0 a.l.length, .int 0, .int a.l.length, fnW1] (heapOf (C_ins.L a)) (C_ins.val a) (C_ins.keep a) [] []
abbrev z_ins_0 : Prop := (0 : Nat) = (0 : Nat)
abbrev z_ins_1 (a : GL) : Prop := a.l.length = a.l.length
abbrev z_ins_2 : Prop := Int.ofNat (0 : Nat) = Int.ofNat (0 : Nat)
abbrev z_ins_3 (a : GL) : Prop := (↑a.l.length : Int) = (↑a.l.length : Int)
abbrev z_ins_4 (a : GL) : Prop := a.g.length = a.g.length /\ ∀ (i : Nat), i < a.g.length -> (gD a.g i).st = (gD a.g i).st /\ (gD a.g i).lo = (gD a.g i).lo /\ (gD a.g i).hi = (gD a.g i).hi
abbrev z_ins_5 (a : GL) (a1 : IL2) : Nat := a.l.length - a1.i
abbrev z_ins_6 (a : IL2) (a1 : GL) : Prop := (1 : Nat) <= a.i /\ (a.i <= a1.l.length ∨ a.i = (1 : Nat)) /\ (a.l.length = a1.l.length /\ ∀ (i : Nat), i < a1.l.length -> (0 : Int) <= gD a.l i /\ gD a.l i < (↑a1.g.length : Int)) /\
 stM (keyG a1.g) a1.l = stR (keyG a1.g) (z_ins_5 a1 a) a.i a.l
abbrev z_ins_7 (a : IJL) : Nat := a.i + (1 : Nat)
abbrev z_ins_8 (a : GL) (a1 : IJL) (a2 : IL2) : Prop := a.l.length - a1.i = z_ins_5 a a2 /\ (1 : Nat) <= a1.i /\ a1.i < a.l.length /\ a1.j <= a1.i /\ (a1.l.length = a.l.length /\ ∀ (i : Nat), i < a.l.length -> (0 : Int) <= gD
 a1.l i /\ gD a1.l i < (↑a.g.length : Int)) /\ stM (keyG a.g) a.l = stR (keyG a.g) (a.l.length - z_ins_7 a1) (z_ins_7 a1) (insJ (keyG a.g) a1.j a1.l)
abbrev z_ins_9 (a : IJL) : Bool := decide ((↑a.j : Int) > (0 : Int))
abbrev z_ins_10 (a : IJL) : Prop := z_ins_9 a = true
abbrev z_ins_11 (a : IJL) (a1 : GL) : Prop := (0 : Int) <= (↑a.j : Int) /\ (↑a.j : Int) < (↑a1.l.length : Int)
abbrev z_ins_12 (a : IJL) : Nat := (0 : Nat) + a.j
abbrev z_ins_13 (a : IJL) : Int := IntKind.i64.wrap ((↑a.j : Int) - (1 : Int))
abbrev z_ins_14 (a : IJL) (a1 : GL) : Prop := (0 : Int) <= z_ins_13 a /\ z_ins_13 a < (↑a1.l.length : Int)
abbrev z_ins_15 (a : IJL) : Nat := (0 : Nat) + (z_ins_13 a).toNat
abbrev z_ins_16 (a : IJL) (a1 : GL) : Prop := (z_ins_15 a).succ.le a1.l.length
abbrev z_ins_17 (a : IJL) : Int := gD a.l (z_ins_12 a)
abbrev z_ins_18 (a : IJL) : Int := gD a.l (z_ins_15 a)
abbrev z_ins_19 (a : GL) : List Gau := rng a.g.length λ (i : Nat) => gD a.g i
abbrev z_ins_20 (a : GL) : Nat := (z_ins_19 a).length
abbrev z_ins_21 (a : GL) (i : Nat) : Gau := gD (z_ins_19 a) i
abbrev z_ins_22 (a : GL) (i : Nat) : Int := (z_ins_21 a i).st
abbrev z_ins_23 (a : GL) (i : Nat) : Int := (z_ins_21 a i).lo
abbrev z_ins_24 (a : GL) (i : Nat) : Int := (z_ins_21 a i).hi
abbrev z_ins_25 (a : IJL) (a1 : GL) : Prop := z_ins_12 a < a1.l.length
theorem vc_ins (a : GL) : (V_ins a) = ((∃ (a_1 : IL2), (z_ins_0 /\ z_ins_1 a /\ z_ins_2 /\ z_ins_3 a /\ (↑a_1.i : Int) = IntKind.i64.wrap ((0 : Int) + (1 : Int)) /\ z_ins_1 a /\ (∀ (i : Nat), i < a.l.length -> gD a_1.l i = gD
 a.l i) /\ z_ins_4 a) /\ z_ins_6 a_1 a) /\ ∀ (a_1 : IL2), z_ins_6 a_1 a -> bif decide ((↑a_1.i : Int) < (↑a.l.length : Int)) then (∃ (a_3 : IJL), (z_ins_0 /\ z_ins_1 a /\ z_ins_2 /\ z_ins_3 a /\ (↑a_3.i : Int) = (↑a_1.i : Int) /\
 (↑a_3.j : Int) = (↑a_1.i : Int) /\ z_ins_1 a /\ (∀ (i : Nat), i < a.l.length -> gD a_3.l i = gD a_1.l i) /\ z_ins_4 a) /\ z_ins_8 a a_3 a_1) /\ ∀ (a_3 : IJL), z_ins_8 a a_3 a_1 -> ((z_ins_10 a_3 -> z_ins_11 a_3 a) /\ (z_ins_10
 a_3 -> (z_ins_12 a_3).succ.le a.l.length) /\ (z_ins_10 a_3 -> z_ins_14 a_3 a) /\ (z_ins_10 a_3 -> z_ins_16 a_3 a) /\ (z_ins_10 a_3 -> z_ins_17 a_3 = z_ins_17 a_3 /\ z_ins_18 a_3 = z_ins_18 a_3 /\ z_ins_20 a = a.g.length /\ (∀ (i :
 Nat), i < z_ins_20 a -> z_ins_22 a i = (gD a.g i).st /\ z_ins_23 a i = (gD a.g i).lo /\ z_ins_24 a i = (gD a.g i).hi) /\ a.g.length = z_ins_20 a /\ (∀ (i : Nat), i < a.g.length -> (gD a.g i).st = z_ins_22 a i /\ (gD a.g i).lo =
 z_ins_23 a i /\ (gD a.g i).hi = z_ins_24 a i) /\ ((0 : Int) <= z_ins_17 a_3 /\ z_ins_17 a_3 < (↑(z_ins_20 a) : Int)) /\ (0 : Int) <= z_ins_18 a_3 /\ z_ins_18 a_3 < (↑(z_ins_20 a) : Int))) /\ bif bif z_ins_9 a_3 then decide (cmpM
 (keyG (z_ins_19 a) (z_ins_17 a_3)) (keyG (z_ins_19 a) (z_ins_18 a_3)) < (0 : Int)) else false then (z_ins_14 a_3 a /\ z_ins_15 a_3 < a.l.length /\ z_ins_11 a_3 a /\ z_ins_25 a_3 a /\ z_ins_11 a_3 a /\ z_ins_25 a_3 a /\
 z_ins_14 a_3 a /\ z_ins_16 a_3 a) /\ ∃ (a_5 : IJL), (z_ins_0 /\ z_ins_1 a /\ z_ins_2 /\ z_ins_3 a /\ (↑a_5.i : Int) = (↑a_3.i : Int) /\ (↑a_5.j : Int) = z_ins_13 a_3 /\ z_ins_1 a /\ (∀ (i : Nat), i < a.l.length -> gD a_5.l i = bif
 decide (i = z_ins_15 a_3) then z_ins_17 a_3 else bif decide (i = z_ins_12 a_3) then z_ins_18 a_3 else gD a_3.l i) /\ z_ins_4 a) /\ z_ins_8 a a_5 a_1 /\ a_5.j < a_3.j else ∃ (a_5 : IL2), (z_ins_0 /\ z_ins_1 a /\ z_ins_2 /\
 z_ins_3 a /\ (↑a_5.i : Int) = IntKind.i64.wrap ((↑a_3.i : Int) + (1 : Int)) /\ z_ins_1 a /\ (∀ (i : Nat), i < a.l.length -> gD a_5.l i = gD a_3.l i) /\ z_ins_4 a) /\ z_ins_6 a_5 a /\ z_ins_5 a a_5 < z_ins_5 a a_1 else z_ins_1 a
 /\ (∀ (i : Nat), i < a.l.length -> gD (stM (keyG a.g) a.l) i = gD a_1.l i) /\ z_ins_4 a) := by kernel_rfl
def dGLs : List AVal -> Heap -> Option (GL × List (Nat × Nat) × List Nat)
 | [.own id _ _ n, .d x, .fn (.func f) [] [.bptr c _]], H => if f = n_fewest1 then match H id, H c with
  | .live (.row _ m r), .live (.box [.d (.list _ k h _)]) => some (⟨rng k λ i => dGau (h i), rng n λ i => dInt (r i), dInt x, 0⟩, [(100, id), (101, c)], [])
  | _, _ => none else none
 | _, _ => none
def C_stb : Ctr := { ro := [101], α := GL, xs := λ a => [.own 100 1 0 a.l.length, .int a.a, fnW1], L := λ a => [(100, rowI a.l), (101, bxG a.g)], val := λ _ => .d (.tup []), keep := λ a => glK a (stM (keyG a.g) a.l), pre := λ a => [(a.a = a.l.length /\ a.l.length < 20) /\ glOk a] }
def sb (a : GL) (l : List Int) (r : List (Nat × AVal)) : Shape := { α := One, dflt := default, T := λ _ => ⟨[(0, .own 100 1 0 a.l.length), (1, .int a.l.length), (2, fnW1), (6, .int 20)] ++ r, glK a l⟩, inv := λ _ => True, meas := λ _ => 0 }
def A_stb (a : GL) : Ann := { ann 63 [(n_insI, C_ins.spec dGL)] with E := [100, 101], loops := λ id => if id = 2 then some [sb a a.l [(7, .int 0), (8, .int 20)]] else if id = 7 then some [sb a (stM (keyG a.g) a.l) []] else none }
def V_stb (a : GL) : Prop := fnVC Try.prog (A_stb a) F_stI (bodyOf F_stI) [.own 100 1 0 a.l.length, .int a.l.length, fnW1] (heapOf (C_stb.L a)) (C_stb.val a) (C_stb.keep a) [] []
abbrev z_stb_0 : Prop := (0 : Nat) = (0 : Nat)
abbrev z_stb_1 (a : GL) : Prop := a.l.length = a.l.length
abbrev z_stb_2 (a : GL) : Prop := (↑a.l.length : Int) = (↑a.l.length : Int)
abbrev z_stb_3 : Prop := Int.ofNat (20 : Nat) = Int.ofNat (20 : Nat)
abbrev z_stb_4 (a : GL) : Prop := a.g.length = a.g.length /\ ∀ (i : Nat), i < a.g.length -> (gD a.g i).st = (gD a.g i).st /\ (gD a.g i).lo = (gD a.g i).lo /\ (gD a.g i).hi = (gD a.g i).hi
abbrev z_stb_5 (a : GL) : List Int := rng a.l.length λ (i : Nat) => gD a.l i
abbrev z_stb_6 (a : GL) : Nat := (z_stb_5 a).length
abbrev z_stb_7 (a : GL) : Prop := z_stb_6 a = a.l.length
abbrev z_stb_8 : Prop := (0 : Int) = Int.ofNat (0 : Nat)
abbrev z_stb_9 (i : Nat) (a : GL) : Prop := i < z_stb_6 a
abbrev z_stb_10 (a : GL) (i : Nat) : Int := gD (z_stb_5 a) i
abbrev z_stb_11 (a : GL) : Prop := ∀ (i : Nat), z_stb_9 i a -> z_stb_10 a i = gD a.l i
abbrev z_stb_12 (a : GL) : List Gau := rng a.g.length λ (i : Nat) => gD a.g i
abbrev z_stb_13 (a : GL) : Nat := (z_stb_12 a).length
abbrev z_stb_14 (a : GL) : Prop := z_stb_13 a = a.g.length
abbrev z_stb_15 (a : GL) (i : Nat) : Gau := gD (z_stb_12 a) i
abbrev z_stb_16 (a : GL) (i : Nat) : Int := (z_stb_15 a i).st
abbrev z_stb_17 (a : GL) (i : Nat) : Int := (z_stb_15 a i).lo
abbrev z_stb_18 (a : GL) (i : Nat) : Int := (z_stb_15 a i).hi
abbrev z_stb_19 (a : GL) : Prop := ∀ (i : Nat), i < z_stb_13 a -> z_stb_16 a i = (gD a.g i).st /\ z_stb_17 a i = (gD a.g i).lo /\ z_stb_18 a i = (gD a.g i).hi
abbrev z_stb_20 (a : GL) : Prop := a.g.length = z_stb_13 a
abbrev z_stb_21 (a : GL) : Prop := ∀ (i : Nat), i < a.g.length -> (gD a.g i).st = z_stb_16 a i /\ (gD a.g i).lo = z_stb_17 a i /\ (gD a.g i).hi = z_stb_18 a i
abbrev z_stb_22 (a : GL) : Prop := z_stb_6 a < (1073741824 : Nat) /\ ∀ (i : Nat), z_stb_9 i a -> (0 : Int) <= z_stb_10 a i /\ z_stb_10 a i < (↑(z_stb_13 a) : Int)
abbrev z_stb_23 (a : GL) : Prop := a.l.length = z_stb_6 a
abbrev z_stb_24 (a : GL) (i : Nat) : Int := gD (stM (keyG (z_stb_12 a)) (z_stb_5 a)) i
abbrev z_stb_25 (a : GL) (i : Nat) : Int := gD (stM (keyG a.g) a.l) i
theorem vc_stb (a : GL) : (V_stb a) = ((∃ (a_1 : One), (z_stb_0 /\ z_stb_1 a /\ z_stb_2 a /\ z_stb_3 /\ Int.ofNat (0 : Nat) = Int.ofNat (0 : Nat) /\ z_stb_3 /\ z_stb_1 a /\ (∀ (i : Nat), i < a.l.length -> gD a.l i = gD a.l i) /\
 z_stb_4 a) /\ True) /\ ∀ (a_1 : One), True -> bif decide ((20 : Int) <= (↑a.l.length : Int)) then (z_stb_0 /\ z_stb_7 a /\ z_stb_8 /\ (20 : Int) = Int.ofNat (20 : Nat) /\ z_stb_7 a /\ z_stb_11 a /\ z_stb_14 a /\ z_stb_19 a /\
 z_stb_20 a /\ z_stb_21 a /\ (z_stb_8 /\ (20 : Int) = (↑(z_stb_6 a) : Int)) /\ z_stb_22 a) /\ ∃ (a_3 : One), (z_stb_0 /\ z_stb_1 a /\ z_stb_2 a /\ z_stb_3 /\ Int.ofNat (0 : Nat) = Int.ofNat (20 : Nat) /\ Int.ofNat (20 : Nat) =
 Int.ofNat (((20 : Nat) + (20 : Nat)) % ((2 : Int) ^ IntKind.i64.bits).natAbs) /\ z_stb_23 a /\ (∀ (i : Nat), i < a.l.length -> gD a.l i = z_stb_24 a i) /\ z_stb_4 a) /\ True /\ (0 : Nat) < (0 : Nat) else (z_stb_0 /\ z_stb_7 a /\
 z_stb_8 /\ z_stb_2 a /\ z_stb_7 a /\ z_stb_11 a /\ z_stb_14 a /\ z_stb_19 a /\ z_stb_20 a /\ z_stb_21 a /\ (z_stb_8 /\ (↑a.l.length : Int) = (↑(z_stb_6 a) : Int)) /\ z_stb_22 a) /\ (∃ (a_3 : One), (z_stb_0 /\ z_stb_1 a /\ z_stb_2 a /\
 z_stb_3 /\ z_stb_23 a /\ (∀ (i : Nat), i < a.l.length -> z_stb_25 a i = z_stb_24 a i) /\ z_stb_4 a) /\ True) /\ ∀ (a_3 : One), True -> bif decide ((20 : Int) < (↑a.l.length : Int)) then False else z_stb_1 a /\ (∀ (i : Nat), i <
 a.l.length -> z_stb_25 a i = z_stb_25 a i) /\ z_stb_4 a) := by kernel_rfl
def dGLt : List AVal -> Heap -> Option (GL × List (Nat × Nat) × List Nat)
 | [.own id _ _ n, .fn (.func f) [] [.bptr c _]], H => if f = n_fewest1 then match H id, H c with
  | .live (.row _ m r), .live (.box [.d (.list _ k h _)]) => some (⟨rng k λ i => dGau (h i), rng n λ i => dInt (r i), 0, 0⟩, [(100, id), (101, c)], [])
  | _, _ => none else none
 | _, _ => none
def C_ss : Ctr := { ro := [101], α := GL, xs := λ a => [.own 100 1 0 a.l.length, fnW1], L := λ a => [(100, rowI a.l), (101, bxG a.g)], val := λ _ => .d (.tup []), keep := λ a => glK a (stM (keyG a.g) a.l), pre := λ a => [a.l.length < 20 /\ glOk a] }
def A_ss : Ann := { ann 9 [(n_stI, C_stb.spec dGLs)] with E := [100, 101] }
def V_ss (a : GL) : Prop := fnVC Try.prog A_ss F_ssI (bodyOf F_ssI) (C_ss.xs a) (heapOf (C_ss.L a)) (C_ss.val a) (C_ss.keep a) [] []
theorem vc_ss (a : GL) : (V_ss a) = ((0 = 0 /\ (rng a.l.length λ (i : Nat) => gD a.l i).length = a.l.length /\ (↑a.l.length : Int) = (↑a.l.length : Int) /\ (rng a.l.length λ (i : Nat) => gD a.l i).length = a.l.length /\
 (∀ (i : Nat), i < (rng a.l.length λ (i : Nat) => gD a.l i).length -> gD (rng a.l.length λ (i : Nat) => gD a.l i) i = gD a.l i) /\ (rng a.g.length λ (i : Nat) => gD a.g i).length = a.g.length /\ (∀ (i : Nat), i < (rng
 a.g.length λ (i : Nat) => gD a.g i).length -> (gD (rng a.g.length λ (i : Nat) => gD a.g i) i).st = (gD a.g i).st /\ (gD (rng a.g.length λ (i : Nat) => gD a.g i) i).lo = (gD a.g i).lo /\ (gD (rng a.g.length λ (i :
 Nat) => gD a.g i) i).hi = (gD a.g i).hi) /\ a.g.length = (rng a.g.length λ (i : Nat) => gD a.g i).length /\ (∀ (i : Nat), i < a.g.length -> (gD a.g i).st = (gD (rng a.g.length λ (i : Nat) => gD a.g i) i).st /\ (gD a.g
 i).lo = (gD (rng a.g.length λ (i : Nat) => gD a.g i) i).lo /\ (gD a.g i).hi = (gD (rng a.g.length λ (i : Nat) => gD a.g i) i).hi) /\ ((↑a.l.length : Int) = (↑(rng a.l.length λ (i : Nat) => gD a.l i).length : Int) /\
 (rng a.l.length λ (i : Nat) => gD a.l i).length < 20) /\ (rng a.l.length λ (i : Nat) => gD a.l i).length < 1073741824 /\ ∀ (i : Nat), i < (rng a.l.length λ (i : Nat) => gD a.l i).length -> 0 <= gD (rng a.l.length fun
 (i : Nat) => gD a.l i) i /\ gD (rng a.l.length λ (i : Nat) => gD a.l i) i < (↑(rng a.g.length λ (i : Nat) => gD a.g i).length : Int)) /\ a.l.length = (rng a.l.length λ (i : Nat) => gD a.l i).length /\ (∀ (i : Nat), i
 < a.l.length -> gD (stM (keyG a.g) a.l) i = gD (stM (keyG (rng a.g.length λ (i : Nat) => gD a.g i)) (rng a.l.length λ (i : Nat) => gD a.l i)) i) /\ a.g.length = a.g.length /\ ∀ (i : Nat), i < a.g.length -> (gD a.g i).st
 = (gD a.g i).st /\ (gD a.g i).lo = (gD a.g i).lo /\ (gD a.g i).hi = (gD a.g i).hi) := by kernel_rfl
theorem ok_fw1 : SpecOk Try.prog n_fewest1 (C_fw1.spec dGAB) := okC C_fw1 (λ _ => A_fw1) [] [] fn_fewest1 (λ _ => by kernel_rfl) (λ _ => gok_cons ok_cmpI gok_nil) (λ (a : GAB) h => by
 show V_fw1 a; rw [vc_fw1]; simp only [condP, eq_self, implies_true, and_self, true_and, and_true, true_implies, forall_const, decide_eq_true_eq, decide_eq_false_iff_not, Int.toNat_natCast, dSpan_eSpan, dInt_eInt, dGau_e, dPt_e, dLn_e, dRt_e, Nat.zero_add, Int.zero_sub, Nat.le_eq, Nat.succ_eq_add_one, Nat.add_one_le_iff, Bool.not_eq_true', Bool.not_eq_false', rng_length, dSpan_mk, rng_getD]
 exact ⟨h, rfl⟩) (λ _ => noI rfl rfl) _
theorem gD_setI {l : List Int} {j i : Nat} {x : Int} (hj : j < l.length) : gD (l.set j x) i = bif decide (i = j) then x else gD l i := by
 unfold gD
 rw [List.getD_eq_getElem?_getD, List.getD_eq_getElem?_getD, List.getElem?_set]
 by_cases h : i = j
 ·subst h; simp [hj]
 ·simp [h, Ne.symm h]
theorem gD_sw {l : List Int} {j i : Nat} (hj : j + 1 < l.length) : gD (swL l j) i = bif decide (i = j) then gD l (j + 1) else bif decide (i = j + 1) then gD l j else gD l i := by
 unfold swL
 rw [gD_setI (by simpa using hj), gD_setI (by omega)]
 by_cases h : i = j
 ·subst h; simp
 ·simp [h]
theorem sw_len (l : List Int) (j : Nat) : (swL l j).length = l.length := by simp [swL]
theorem p_ins (a : GL) (h : glOk a) : V_ins a := by
 rw [vc_ins]; delta z_ins_0 z_ins_1 z_ins_2 z_ins_3 z_ins_4 z_ins_5 z_ins_6 z_ins_7 z_ins_8 z_ins_9 z_ins_10 z_ins_11 z_ins_12 z_ins_13 z_ins_14 z_ins_15 z_ins_16 z_ins_17 z_ins_18 z_ins_19 z_ins_20 z_ins_21 z_ins_22 z_ins_23 z_ins_24 z_ins_25; simp only [condP, eq_self, implies_true, and_self, true_and, and_true, true_implies, forall_const, decide_eq_true_eq, decide_eq_false_iff_not, Int.toNat_natCast, dSpan_eSpan, dInt_eInt, dGau_e, dPt_e, dLn_e, dRt_e, Nat.zero_add, Int.zero_sub, Nat.le_eq, Nat.succ_eq_add_one, Nat.add_one_le_iff, Bool.not_eq_true', Bool.not_eq_false', rng_length, dSpan_mk, rng_getD]
 obtain ⟨hlen, hin⟩ := h
 refine ⟨⟨⟨1, a.l⟩, ⟨by show (1 : Int) = _; rw [w64 (by omega) (by omega)]; rfl, λ _ _ => rfl⟩, Nat.one_pos, .inr rfl, ⟨rfl, hin⟩, rfl⟩, λ x ⟨x1, x2, ⟨x3, x4⟩, x5⟩ => ⟨λ hlt => ⟨⟨⟨x.i, x.i, x.l⟩, ⟨rfl, rfl, λ _ _ => rfl⟩, rfl, x1, Int.ofNat_lt.1 hlt, Nat.le_refl _, ⟨x3, x4⟩, ?_⟩, λ y ⟨y1, y2, y3, y4, ⟨y5, y6⟩, y7⟩ => ?_⟩, λ hge => ?_⟩⟩
 ·rw [x5, show a.l.length - x.i = (a.l.length - (x.i + 1)) + 1 by omega]; rfl
 ·refine ⟨⟨λ _ => ⟨by omega, by omega⟩, λ _ => by omega, λ hj => ?_, λ hj => ?_, λ hj => ⟨y6 _ (by omega), ?_⟩⟩, λ hc => ?_, λ hc => ?_⟩
  ·rw [w64 (by omega) (by omega)]; omega
  ·rw [w64 (by omega) (by omega)]; omega
  ·rw [w64 (by omega) (by omega)]; exact y6 _ (by omega)
  ·have hj : 0 < y.j := by
    cases hd : decide ((y.j : Int) > 0) with
    | false => rw [hd] at hc; cases hc
    | true => have := of_decide_eq_true hd; omega
   obtain ⟨j, hj2⟩ : ∃ j, y.j = j + 1 := ⟨y.j - 1, by omega⟩
   have e : IntKind.i64.wrap ((y.j : Int) - 1) = (j : Nat) := by rw [w64 (by omega) (by omega)]; omega
   rw [decide_eq_true (show (y.j : Int) > 0 by omega)] at hc
   have hc : decide (cmpM (keyG a.g (gD y.l y.j)) (keyG a.g (gD y.l (IntKind.i64.wrap ((y.j : Int) - 1)).toNat)) < 0) = true := hc
   rw [e] at hc ⊢
   simp only [Int.toNat_natCast] at hc ⊢
   refine ⟨⟨⟨by omega, by omega⟩, by omega, ⟨by omega, by omega⟩, by omega, ⟨by omega, by omega⟩, by omega, ⟨by omega, by omega⟩, by omega⟩, ⟨y.i, j, swL y.l j⟩, ⟨rfl, rfl, λ i hi => ?_⟩, ⟨y1, y2, y3, by show j <= y.i; omega, ⟨by rw [sw_len]; exact y5, λ i hi => ?_⟩, ?_⟩, by show j < _; omega⟩
   ·show gD (swL y.l j) i = _
    rw [gD_sw (by omega), hj2]
   ·show 0 <= gD (swL y.l j) i /\ gD (swL y.l j) i < _
    rw [gD_sw (by omega)]
    cases decide (i = j)
    ·cases decide (i = j + 1)
     ·exact y6 i hi
     ·exact y6 j (by omega)
    ·exact y6 (j + 1) (by omega)
   ·rw [hj2] at hc y7
    unfold insJ at y7
    rw [hc] at y7; exact y7
  ·have hq : insJ (keyG a.g) y.j y.l = y.l := by
    cases hd : decide ((y.j : Int) > 0) with
    | false =>
     have := of_decide_eq_false hd
     rw [show y.j = 0 by omega]; rfl
    | true =>
     have hj := of_decide_eq_true hd
     obtain ⟨j, hj2⟩ : ∃ j, y.j = j + 1 := ⟨y.j - 1, by omega⟩
     have e : IntKind.i64.wrap ((y.j : Int) - 1) = (j : Nat) := by rw [w64 (by omega) (by omega)]; omega
     rw [hd] at hc
     have hc : decide (cmpM (keyG a.g (gD y.l y.j)) (keyG a.g (gD y.l (IntKind.i64.wrap ((y.j : Int) - 1)).toNat)) < 0) = false := hc
     rw [e, hj2] at hc
     simp only [Int.toNat_natCast] at hc
     rw [hj2]; unfold insJ; rw [hc]; rfl
   rw [hq] at y7
   refine ⟨⟨y.i + 1, y.l⟩, ⟨(wsucc (by omega)).symm, λ _ _ => rfl⟩, ⟨by show 0 < y.i + 1; omega, .inl (by show y.i + 1 <= _; omega), ⟨y5, y6⟩, y7⟩, by show a.l.length - (y.i + 1) < _; omega⟩
 ·intro i hi
  rw [x5, show a.l.length - x.i = 0 by omega]; rfl
theorem ok_ins : SpecOk Try.prog n_insI (C_ins.spec dGL) := okT C_ins (λ (a : GL) h => by
 obtain ⟨⟨ha, hb⟩, h⟩ : (a.a = 0 /\ a.b = a.l.length) /\ glOk a := h
 show FnT Try.prog n_insI [.own 100 1 0 a.l.length, .int a.a, .int a.b, fnW1] _ _ _
 rw [ha, hb]
 exact fnt (A := A_ins a) (L := C_ins.L a) (keep := C_ins.keep a) (ren := []) (fz := []) fn_insI (by kernel_rfl) (gok_cons ok_fw1 gok_nil) (p_ins a h)) _
theorem ok_stb : SpecOk Try.prog n_stI (C_stb.spec dGLs) := okT C_stb (λ (a : GL) h => by
 obtain ⟨⟨ha, hb⟩, h⟩ : (a.a = a.l.length /\ a.l.length < 20) /\ glOk a := h
 show FnT Try.prog n_stI [.own 100 1 0 a.l.length, .int a.a, fnW1] _ _ _
 rw [ha]
 refine fnt (A := A_stb a) (L := C_stb.L a) (keep := C_stb.keep a) (ren := []) (fz := []) fn_stI (by kernel_rfl) (gok_cons ok_ins gok_nil) ?_
 show V_stb a
 rw [vc_stb]; delta z_stb_0 z_stb_1 z_stb_2 z_stb_3 z_stb_4 z_stb_5 z_stb_6 z_stb_7 z_stb_8 z_stb_9 z_stb_10 z_stb_11 z_stb_12 z_stb_13 z_stb_14 z_stb_15 z_stb_16 z_stb_17 z_stb_18 z_stb_19 z_stb_20 z_stb_21 z_stb_22 z_stb_23 z_stb_24 z_stb_25; simp only [condP, eq_self, implies_true, and_self, true_and, and_true, true_implies, forall_const, decide_eq_true_eq, decide_eq_false_iff_not, Int.toNat_natCast, dSpan_eSpan, dInt_eInt, dGau_e, dPt_e, dLn_e, dRt_e, Nat.zero_add, Int.zero_sub, Nat.le_eq, Nat.succ_eq_add_one, Nat.add_one_le_iff, Bool.not_eq_true', Bool.not_eq_false', rng_length, dSpan_mk, rng_getD]
 exact ⟨⟨default, trivial⟩, λ hc => by omega, λ _ => ⟨⟨rfl, rfl, h⟩, ⟨default, trivial⟩, λ hc => by omega⟩⟩) _
theorem ok_ss : SpecOk Try.prog n_ssI (C_ss.spec dGLt) := okC C_ss (λ _ => A_ss) [] [] fn_ssI (λ _ => by kernel_rfl) (λ _ => gok_cons ok_stb gok_nil) (λ (a : GL) h => by
 show V_ss a; rw [vc_ss]; simp only [condP, eq_self, implies_true, and_self, true_and, and_true, true_implies, forall_const, decide_eq_true_eq, decide_eq_false_iff_not, Int.toNat_natCast, dSpan_eSpan, dInt_eInt, dGau_e, dPt_e, dLn_e, dRt_e, Nat.zero_add, Int.zero_sub, Nat.le_eq, Nat.succ_eq_add_one, Nat.add_one_le_iff, Bool.not_eq_true', Bool.not_eq_false', rng_length, dSpan_mk, rng_getD]
 exact h) (λ _ => noI rfl rfl) _
end Go.Bal
