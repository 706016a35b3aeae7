/- Package rating: a book at work. -/
import Derived.Test.YtoihhodbkimedaaRatD
set_option linter.unusedVariables false
set_option linter.unusedSimpArgs false
namespace Go.Bal
open Go Go.Sym Go.Proofs
structure Bk where
 g : List Gau
 b : List Int
 has : Int -> Bool
 st : Int -> Int
def insM (w : Bk) (k : Int) : List Gau := w.g.filter λ g => (leC w.b g.st : Int) == k
def flM (s : List Gau) : List Ln := (thruM s).filter (paM s)
def fdM (w : Bk) (j : Int) : List Ln := bif w.has j then flM (insM w j) else []
def bkB (w : Bk) (m : Nat) : AObj := .box [.d (eGaus w.g), .d (eIntsL w.b), .mref m]
def bkM (w : Bk) : AObj := .imap .i64 (.slice none 0 0) w.has (λ j => eLns (fdM w j)) w.st none
def bkL (w : Bk) : List (Nat × AObj) := [(100, bkB w 101), (101, bkM w)]
def bkK (w : Bk) : List (Nat × HCell) := [(100, .live (bkB w 101)), (101, .live (bkM w))]
def bkOk (g : List Gau) (b : List Int) : Prop := g.length <= 24 /\ (∀ x ∈ g, okG x) /\ b.length <= 24 /\ asc b /\ ∀ x ∈ b, 1 <= x /\ x <= 2000
def decBk (H : Heap) (id : Nat) : Option (Bk × Nat) := match H id with
 | .live (.box [.d (.list _ n g _), .d (.list _ m b _), .mref q]) => match H q with
  | .live (.imap _ _ has _ st _) => some (⟨rng n λ i => dGau (g i), rng m λ i => dInt (b i), has, st⟩, q)
  | _ => none
 | _ => none
structure BkI where
 w : Bk
 k : Int
def dBkI : List AVal -> Heap -> Option (BkI × List (Nat × Nat) × List Nat)
 | [.bptr id _, .d k], H => match decBk H id with
  | some (w, q) => some (⟨w, dInt k⟩, [(100, id), (101, q)], [])
  | none => none
 | _, _ => none
def inA (w : Bk) (k : Int) (i : Nat) : Bool := (leC w.b (gD w.g i).st : Int) == k
def inRow (w : Bk) (k : Int) (m : Nat) : HCell := .live (.row 1 24 λ j => eBool (bif decide (j < m) then inA w k j else false))
def insK (w : Bk) (k : Int) (i : Nat) : List Gau := (w.g.take i).filter λ g => (leC w.b g.st : Int) == k
def in3 (a : BkI) : Shape := { α := Nat, dflt := 0, T := λ i => ⟨[(0, .bptr 100 0), (1, .int a.k), (5, .rptr 201 1 0 0), (15, .d (eGaus a.w.g)), (16, .int a.w.g.length), (17, .int i)], bkK a.w ++ [(201, inRow a.w a.k i)]⟩, inv := λ i => i <= a.w.g.length, meas := λ i => a.w.g.length - i, first := [(201, 2000)] }
structure GsK where
 i : Nat
 l : List Gau
 deriving Inhabited
def in9s (a : BkI) (i : Nat) : List (Nat × AVal) := [(5, .rptr 201 1 0 0), (39, .d (eGaus a.w.g)), (40, .int a.w.g.length), (41, .int i)]
def rowG (l : List Gau) : AObj := .row 3 l.length λ i => eGau (gD l i)
def in9h (a : BkI) : List (Nat × HCell) := bkK a.w ++ [(201, inRow a.w a.k a.w.g.length)]
def in9n (a : BkI) : Shape := { α := Nat, dflt := 0, T := λ i => ⟨(8, .d nilL) :: in9s a i, in9h a⟩, inv := λ i => i <= a.w.g.length /\ insK a.w a.k i = [], meas := λ i => a.w.g.length - i }
def in9o (a : BkI) : Shape := { α := GsK, dflt := default, T := λ x => ⟨(8, .own 202 3 0 x.l.length) :: in9s a x.i, in9h a ++ [(202, .live (rowG x.l))]⟩, inv := λ x => x.i <= a.w.g.length /\ x.l = insK a.w a.k x.i, meas := λ x => a.w.g.length - x.i }
def in13n (a : BkI) (m : Nat) : Shape := { α := Nat, dflt := 0, T := λ i => ⟨(8, .d nilL) :: in9s a i, in9h a⟩, inv := λ i => i < a.w.g.length /\ a.w.g.length - i = m /\ insK a.w a.k (i + 1) = [], meas := λ i => 0 }
def in13o (a : BkI) (m : Nat) (f : List (Nat × Nat)) : Shape := { α := GsK, dflt := default, T := λ x => ⟨(8, .own 202 3 0 x.l.length) :: in9s a x.i, in9h a ++ [(202, .live (rowG x.l))]⟩, inv := λ x => x.i < a.w.g.length /\ a.w.g.length - x.i = m /\ x.l = insK a.w a.k (x.i + 1), meas := λ x => 0, first := f }
def C_inside : Ctr := { ro := [100, 101], α := BkI, xs := λ a => [.bptr 100 0, .int a.k], L := λ a => bkL a.w, val := λ a => .d (eGaus (insM a.w a.k)), keep := λ a => bkK a.w, pre := λ a => [bkOk a.w.g a.w.b /\ True] }
def A_inside (a : BkI) : Ann := { ann 55 [(n_part, C_part.spec dIX)] with E := [100, 101], mt := λ id => id == 12, loops := λ id => if id = 3 then some [in3 a] else if id = 9 then some [in9n a, in9o a] else none, cutIn := λ gs id => if id = 13 then some [in13n a (gs.getD 0 0), in13o a (gs.getD 0 0) [(202, 13048)], in13o a (gs.getD 0 0) []] else none }
def V_inside (a : BkI) : Prop := fnVC Try.prog (A_inside a) F_inside (bodyOf F_inside) (C_inside.xs a) (heapOf (C_inside.L a)) (C_inside.val a) (C_inside.keep a) [] [202]
abbrev z_inside_0 : Prop := 0 = 0
abbrev z_inside_1 (a : BkI) : Prop := a.w.g.length = a.w.g.length
abbrev z_inside_2 (a : BkI) (i : Nat) : Prop := (gD a.w.g i).st = (gD a.w.g i).st
abbrev z_inside_3 (a : BkI) : Prop := ∀ (i : Nat), i < a.w.g.length -> z_inside_2 a i /\ (gD a.w.g i).lo = (gD a.w.g i).lo /\ (gD a.w.g i).hi = (gD a.w.g i).hi
abbrev z_inside_4 (a : BkI) : Prop := (↑a.w.g.length : Int) = (↑a.w.g.length : Int)
abbrev z_inside_5 (a : Nat) : Prop := (↑a : Int) = 0
abbrev z_inside_6 (a : BkI) : Prop := a.w.b.length = a.w.b.length
abbrev z_inside_7 (a : BkI) : Prop := ∀ (i : Nat), i < a.w.b.length -> gD a.w.b i = gD a.w.b i
abbrev z_inside_8 : Value := Value.slice none 0 0
abbrev z_inside_9 : Prop := z_inside_8 = z_inside_8
abbrev z_inside_10 (a : BkI) : Prop := ∀ (n : Int), a.w.has n = a.w.has n
abbrev z_inside_11 (a : BkI) : Prop := ∀ (n : Int), a.w.st n = a.w.st n
abbrev z_inside_12 (a : BkI) : Prop := ∀ (n : Int), (fdM a.w n).length = (fdM a.w n).length /\ ∀ (i : Nat), i < (fdM a.w n).length -> (gD (fdM a.w n) i).a0 = (gD (fdM a.w n) i).a0 /\ (gD (fdM a.w n) i).a1 = (gD (fdM a.w n)
 i).a1 /\ (gD (fdM a.w n) i).b0 = (gD (fdM a.w n) i).b0 /\ (gD (fdM a.w n) i).b1 = (gD (fdM a.w n) i).b1
abbrev z_inside_13 : Prop := 24 = 24
abbrev z_inside_14 (i : Nat) (a : Nat) (a1 : BkI) : Bool := bif decide (i < a) then inA a1.w a1.k i else false
abbrev z_inside_15 (a : Nat) (a1 : BkI) : Prop := (↑a : Int) < (↑a1.w.g.length : Int)
abbrev z_inside_16 (a : Nat) (a1 : BkI) : Bool := decide (z_inside_15 a a1)
abbrev z_inside_17 (a : Nat) : Prop := 0 <= (↑a : Int)
abbrev z_inside_18 (a : Nat) (a1 : BkI) : Prop := z_inside_17 a /\ z_inside_15 a a1
abbrev z_inside_19 (a : BkI) : List Int := rng a.w.b.length λ (i : Nat) => gD a.w.b i
abbrev z_inside_20 (a : BkI) : Nat := (z_inside_19 a).length
abbrev z_inside_21 (a : Nat) : Prop := (z_inside_17 a /\ (↑a : Int) < (↑24 : Int)) /\ a.succ.le 24
abbrev z_inside_22 (a : Nat) (a1 : Nat) : Prop := (↑a : Int) = IntKind.i64.wrap ((↑a1 : Int) + 1)
abbrev z_inside_23 (a : BkI) (a1 : Nat) : Nat := a.w.g.length - a1
abbrev z_inside_24 (a : BkI) (a1 : Nat) (a2 : Nat) : Prop := z_inside_23 a a1 < z_inside_23 a a2
abbrev z_inside_25 : Prop := ∀ (i : Nat), i < 0 -> false = false
abbrev z_inside_26 (i : Nat) (a : BkI) : Bool := bif decide (i < a.w.g.length) then inA a.w a.k i else false
abbrev z_inside_27 (a : Nat) (a1 : BkI) : Prop := a <= a1.w.g.length /\ insK a1.w a1.k a = []
abbrev z_inside_28 : Prop := 0 < 1
abbrev z_inside_29 : Prop := 3 = 3
abbrev z_inside_30 : Prop := 1 <= 1 /\ (z_inside_28 -> z_inside_29)
abbrev z_inside_31 (a : GsK) : Prop := a.l.length = 1
abbrev z_inside_32 (a : BkI) : Prop := ∀ (i : Nat), i < 24 -> z_inside_26 i a = z_inside_26 i a
abbrev z_inside_33 (a : GsK) (a1 : BkI) : Prop := a.i < a1.w.g.length
abbrev z_inside_34 (a : BkI) (a1 : GsK) : Nat := a.w.g.length - a1.i
abbrev z_inside_35 (a : GsK) (a1 : BkI) : Prop := a.l = insK a1.w a1.k (a.i + 1)
abbrev z_inside_36 (a : GsK) (a1 : BkI) (a2 : Nat) : Prop := z_inside_33 a a1 /\ z_inside_34 a1 a = z_inside_23 a1 a2 /\ z_inside_35 a a1
abbrev z_inside_37 (a : BkI) : Prop := z_inside_1 a /\ z_inside_3 a /\ z_inside_6 a /\ z_inside_7 a /\ z_inside_9 /\ z_inside_10 a /\ z_inside_11 a /\ z_inside_12 a /\ z_inside_13 /\ z_inside_32 a
abbrev z_inside_38 (a : BkI) (a1 : Nat) : Prop := insK a.w a.k (a1 + 1) = []
abbrev z_inside_39 (a : Nat) (a1 : BkI) (a2 : Nat) : Prop := a < a1.w.g.length /\ z_inside_23 a1 a = z_inside_23 a1 a2 /\ z_inside_38 a1 a
abbrev z_inside_40 (a : BkI) (a1 : Nat) (a2 : Nat) : Prop := z_inside_0 /\ z_inside_25 /\ z_inside_0 /\ z_inside_1 a /\ z_inside_3 a /\ z_inside_4 a /\ z_inside_22 a1 a2 /\ z_inside_37 a
abbrev z_inside_41 (a : GsK) (a1 : GsK) : Prop := a.l.length = a1.l.length
abbrev z_inside_42 (a : BkI) (a1 : GsK) (a2 : GsK) : Prop := z_inside_1 a /\ z_inside_3 a /\ z_inside_6 a /\ z_inside_7 a /\ z_inside_9 /\ z_inside_10 a /\ z_inside_11 a /\ z_inside_12 a /\ z_inside_13 /\ z_inside_32 a /\
 z_inside_41 a1 a2 /\ ∀ (i : Nat), i < a1.l.length -> (gD a1.l i).st = (gD a2.l i).st /\ (gD a1.l i).lo = (gD a2.l i).lo /\ (gD a1.l i).hi = (gD a2.l i).hi
abbrev z_inside_43 (a : GsK) (a1 : GsK) (a2 : BkI) : Prop := z_inside_0 /\ z_inside_41 a a1 /\ z_inside_0 /\ z_inside_1 a2 /\ z_inside_3 a2 /\ z_inside_4 a2 /\ (↑a.i : Int) = IntKind.i64.wrap ((↑a1.i : Int) + 1) /\ z_inside_42
 a2 a a1
abbrev z_inside_44 (a : GsK) (a1 : BkI) : Prop := a.i <= a1.w.g.length /\ a.l = insK a1.w a1.k a.i
abbrev z_inside_45 (a : BkI) (a1 : Nat) : Prop := ∀ (a_1 : GsK), z_inside_36 a_1 a a1 -> ∃ (a_3 : GsK), z_inside_43 a_3 a_1 a /\ z_inside_44 a_3 a /\ z_inside_34 a a_3 < z_inside_23 a a1
abbrev z_inside_46 (a : BkI) : Prop := (insM a.w a.k).length = 0
abbrev z_inside_47 (a : BkI) : Prop := z_inside_1 a /\ z_inside_3 a /\ z_inside_6 a /\ z_inside_7 a /\ z_inside_9 /\ z_inside_10 a /\ z_inside_11 a /\ z_inside_12 a
abbrev z_inside_48 (a : GsK) (a1 : BkI) : Prop := (↑a.i : Int) < (↑a1.w.g.length : Int)
abbrev z_inside_49 (a : GsK) : Prop := 0 <= (↑a.i : Int)
abbrev z_inside_50 (a : GsK) : Nat := a.l.length + 1
abbrev z_inside_51 (a : GsK) (a1 : GsK) : Prop := a.l.length = z_inside_50 a1
abbrev z_inside_52 (a : GsK) (a1 : GsK) : Prop := (↑a.i : Int) = (↑a1.i : Int)
abbrev z_inside_53 (i : Nat) (a : GsK) : Bool := decide (i < a.l.length)
abbrev z_inside_54 (a : GsK) (a1 : BkI) (a2 : GsK) : Prop := z_inside_33 a a1 /\ z_inside_34 a1 a = z_inside_34 a1 a2 /\ z_inside_35 a a1
abbrev z_inside_55 (a : BkI) (a1 : GsK) : Prop := ∀ (a_1 : GsK), z_inside_54 a_1 a a1 -> ∃ (a_3 : GsK), z_inside_43 a_3 a_1 a /\ z_inside_44 a_3 a /\ z_inside_34 a a_3 < z_inside_34 a a1
abbrev z_inside_56 (a : GsK) (j : Nat) : Gau := gD a.l (0 + j)
theorem vc_inside (a : BkI) : (V_inside a) = ((Value.agg #[Value.bool false, Value.bool false, Value.bool false, Value.bool false, Value.bool false, Value.bool false, Value.bool false, Value.bool false, Value.bool false,
 Value.bool false, Value.bool false, Value.bool false, Value.bool false, Value.bool false, Value.bool false, Value.bool false, Value.bool false, Value.bool false, Value.bool false, Value.bool false, Value.bool false,
 Value.bool false, Value.bool false, Value.bool false]).cells.toList = (List.replicate 24 (Value.bool false).cells.toList).flatten /\ (∃ (a_1 : Nat), (a.k = a.k /\ z_inside_0 /\ z_inside_1 a /\ z_inside_3 a /\ z_inside_4 a /\
 z_inside_5 a_1 /\ z_inside_1 a /\ z_inside_3 a /\ z_inside_6 a /\ z_inside_7 a /\ z_inside_9 /\ z_inside_10 a /\ z_inside_11 a /\ z_inside_12 a /\ z_inside_13 /\ ∀ (i : Nat), i < 24 -> z_inside_14 i a_1 a = false) /\ a_1.le
 a.w.g.length) /\ ∀ (a_1 : Nat), a_1.le a.w.g.length -> bif z_inside_16 a_1 a then z_inside_18 a_1 a /\ (z_inside_20 a = a.w.b.length /\ (∀ (i : Nat), i < z_inside_20 a -> gD (z_inside_19 a) i = gD a.w.b i) /\ z_inside_2 a a_1
 /\ (z_inside_20 a < 4611686018427387904 /\ List.Pairwise (λ (x1 x2 : Int) => x1 < x2) (z_inside_19 a)) /\ z_inside_21 a_1) /\ ∃ (a_3 : Nat), (a.k = a.k /\ z_inside_0 /\ z_inside_1 a /\ z_inside_3 a /\ z_inside_4 a /\
 z_inside_22 a_3 a_1 /\ z_inside_1 a /\ z_inside_3 a /\ z_inside_6 a /\ z_inside_7 a /\ z_inside_9 /\ z_inside_10 a /\ z_inside_11 a /\ z_inside_12 a /\ z_inside_13 /\ ∀ (i : Nat), i < 24 -> z_inside_14 i a_3 a = bif decide (i =
 a_1) then (↑(leC (z_inside_19 a) (gD a.w.g a_1).st) : Int) == a.k else z_inside_14 i a_1 a) /\ a_3.le a.w.g.length /\ z_inside_24 a a_3 a_1 else (∃ (a_3 : Nat), (z_inside_0 /\ z_inside_25 /\ z_inside_0 /\ z_inside_1 a /\
 z_inside_3 a /\ z_inside_4 a /\ z_inside_5 a_3 /\ z_inside_1 a /\ z_inside_3 a /\ z_inside_6 a /\ z_inside_7 a /\ z_inside_9 /\ z_inside_10 a /\ z_inside_11 a /\ z_inside_12 a /\ z_inside_13 /\ ∀ (i : Nat), i < 24 -> z_inside_26 i a
 = z_inside_14 i a_1 a) /\ z_inside_27 a_3 a) /\ (∀ (a_3 : Nat), z_inside_27 a_3 a -> bif z_inside_16 a_3 a then (z_inside_18 a_3 a /\ z_inside_21 a_3 /\ bif bif decide (a_3 < a.w.g.length) then inA a.w a.k a_3 else false then
 ((True /\ (0 < 0 -> 0 = 3)) /\ z_inside_30 /\ (true = true -> z_inside_28) /\ 1 <= 9223372036854775807 /\ 24 <= 140737488355328) /\ ∃ (a_5 : GsK), (z_inside_0 /\ z_inside_31 a_5 /\ z_inside_0 /\ z_inside_1 a /\ z_inside_3 a /\
 z_inside_4 a /\ (↑a_5.i : Int) = (↑a_3 : Int) /\ z_inside_1 a /\ z_inside_3 a /\ z_inside_6 a /\ z_inside_7 a /\ z_inside_9 /\ z_inside_10 a /\ z_inside_11 a /\ z_inside_12 a /\ z_inside_13 /\ z_inside_32 a /\ z_inside_31 a_5 /\ ∀ (i
 : Nat), i < a_5.l.length -> (gD a_5.l i).st = (gD a.w.g a_3).st /\ (gD a_5.l i).lo = (gD a.w.g a_3).lo /\ (gD a_5.l i).hi = (gD a.w.g a_3).hi) /\ z_inside_36 a_5 a a_3 else ∃ (a_5 : Nat), (z_inside_0 /\ z_inside_25 /\
 z_inside_0 /\ z_inside_1 a /\ z_inside_3 a /\ z_inside_4 a /\ (↑a_5 : Int) = (↑a_3 : Int) /\ z_inside_37 a) /\ z_inside_39 a_5 a a_3) /\ (∀ (a_5 : Nat), z_inside_39 a_5 a a_3 -> ∃ (a_7 : Nat), z_inside_40 a a_7 a_5 /\ z_inside_27
 a_7 a /\ z_inside_24 a a_7 a_3) /\ z_inside_45 a a_3 /\ z_inside_45 a a_3 else z_inside_46 a /\ z_inside_46 a /\ z_inside_47 a) /\ ∀ (a_3 : GsK), z_inside_44 a_3 a -> bif decide (z_inside_48 a_3 a) then ((z_inside_49 a_3 /\
 z_inside_48 a_3 a) /\ ((z_inside_49 a_3 /\ (↑a_3.i : Int) < (↑24 : Int)) /\ a_3.i.succ.le 24) /\ bif bif decide (z_inside_33 a_3 a) then inA a.w a.k a_3.i else false then ((a_3.l.length = a_3.l.length /\ (0 < a_3.l.length ->
 z_inside_29)) /\ z_inside_30 /\ (false = true -> z_inside_28) /\ z_inside_50 a_3 <= 9223372036854775807 /\ z_inside_50 a_3 * 24 <= 140737488355328) /\ ∃ (a_5 : GsK), (z_inside_0 /\ z_inside_51 a_5 a_3 /\ z_inside_0 /\ z_inside_1 a
 /\ z_inside_3 a /\ z_inside_4 a /\ z_inside_52 a_5 a_3 /\ z_inside_1 a /\ z_inside_3 a /\ z_inside_6 a /\ z_inside_7 a /\ z_inside_9 /\ z_inside_10 a /\ z_inside_11 a /\ z_inside_12 a /\ z_inside_13 /\ z_inside_32 a /\ z_inside_51 a_5
 a_3 /\ ∀ (i : Nat), i < a_5.l.length -> ((gD a_5.l i).st = bif z_inside_53 i a_3 then (gD a_3.l i).st else (gD a.w.g a_3.i).st) /\ ((gD a_5.l i).lo = bif z_inside_53 i a_3 then (gD a_3.l i).lo else (gD a.w.g a_3.i).lo) /\
 (gD a_5.l i).hi = bif z_inside_53 i a_3 then (gD a_3.l i).hi else (gD a.w.g a_3.i).hi) /\ z_inside_54 a_5 a a_3 else ∃ (a_5 : GsK), (z_inside_0 /\ z_inside_41 a_5 a_3 /\ z_inside_0 /\ z_inside_1 a /\ z_inside_3 a /\ z_inside_4
 a /\ z_inside_52 a_5 a_3 /\ z_inside_42 a a_5 a_3) /\ z_inside_54 a_5 a a_3) /\ (∀ (a_5 : Nat), a_5 < a.w.g.length /\ z_inside_23 a a_5 = z_inside_34 a a_3 /\ z_inside_38 a a_5 -> ∃ (a_7 : Nat), z_inside_40 a a_7 a_5 /\
 z_inside_27 a_7 a /\ z_inside_23 a a_7 < z_inside_34 a a_3) /\ z_inside_55 a a_3 /\ z_inside_55 a a_3 else (insM a.w a.k).length = a_3.l.length /\ 0 + a_3.l.length <= a_3.l.length /\ (∀ (j : Nat), j < (insM a.w a.k).length ->
 (gD (insM a.w a.k) j).st = (z_inside_56 a_3 j).st /\ (gD (insM a.w a.k) j).lo = (z_inside_56 a_3 j).lo /\ (gD (insM a.w a.k) j).hi = (z_inside_56 a_3 j).hi) /\ z_inside_47 a) := by kernel_rfl
theorem insK_succ {w : Bk} {k : Int} {i : Nat} (h : i < w.g.length) : insK w k (i + 1) = if inA w k i = true then insK w k i ++ [gD w.g i] else insK w k i := by
 unfold insK
 rw [take_snoc h, List.filter_append]
 unfold inA
 split
 ·rename_i h1; simp [List.filter_cons, h1]
 ·rename_i h1; simp [List.filter_cons, h1]
theorem insK_all {w : Bk} {k : Int} {i : Nat} (h : w.g.length <= i) : insK w k i = insM w k := by unfold insK insM; rw [List.take_of_length_le h]
theorem insK_len {w : Bk} {k : Int} {i : Nat} : (insK w k i).length <= w.g.length :=
 Nat.le_trans (List.length_filter_le _ _) (by simp; omega)
theorem snocG (l : List Gau) (p : Gau) (i : Nat) (hi : i < (l ++ [p]).length) : ((gD (l ++ [p]) i).st = bif decide (i < l.length) then (gD l i).st else p.st) /\ ((gD (l ++ [p]) i).lo = bif decide (i < l.length) then (gD l i).lo else p.lo) /\ (gD (l ++ [p]) i).hi = bif decide (i < l.length) then (gD l i).hi else p.hi := by
 rw [gD_snoc _ _ (by simpa using hi)]
 cases decide (i < l.length) <;> exact ⟨rfl, rfl, rfl⟩
theorem p_inside (a : BkI) (h : bkOk a.w.g a.w.b) : V_inside a := by
 rw [vc_inside]; delta z_inside_0 z_inside_1 z_inside_2 z_inside_3 z_inside_4 z_inside_5 z_inside_6 z_inside_7 z_inside_8 z_inside_9 z_inside_10 z_inside_11 z_inside_12 z_inside_13 z_inside_14 z_inside_15 z_inside_16 z_inside_17 z_inside_18 z_inside_19 z_inside_20 z_inside_21 z_inside_22 z_inside_23 z_inside_24 z_inside_25 z_inside_26 z_inside_27 z_inside_28 z_inside_29 z_inside_30 z_inside_31 z_inside_32 z_inside_33 z_inside_34 z_inside_35 z_inside_36 z_inside_37 z_inside_38 z_inside_39 z_inside_40 z_inside_41 z_inside_42 z_inside_43 z_inside_44 z_inside_45 z_inside_46 z_inside_47 z_inside_48 z_inside_49 z_inside_50 z_inside_51 z_inside_52 z_inside_53 z_inside_54 z_inside_55 z_inside_56; simp only [condP, eq_self, implies_true, and_self, true_and, and_true, true_implies, forall_const, decide_eq_true_eq, decide_eq_false_iff_not, Int.toNat_natCast, dSpan_eSpan, dInt_eInt, dGau_e, dPt_e, dLn_e, dRt_e, Nat.zero_add, Int.zero_sub, Nat.le_eq, Nat.succ_eq_add_one, Nat.add_one_le_iff, Bool.not_eq_true', Bool.not_eq_false', rng_length, dSpan_mk, rng_getD]
 obtain ⟨hg, hgo, hb, hasc, hbr⟩ := h
 have cn : ∀ (m i : Nat), i < a.w.g.length /\ a.w.g.length - i = m /\ insK a.w a.k (i + 1) = [] -> ∃ j : Nat, (j : Int) = IntKind.i64.wrap ((i : Int) + 1) /\ (j <= a.w.g.length /\ insK a.w a.k j = []) /\ a.w.g.length - j < m := λ m i h => ⟨i + 1, (wsucc (by omega)).symm, ⟨h.1, h.2.2⟩, by omega⟩
 have co : ∀ (m : Nat) (x : GsK), x.i < a.w.g.length /\ a.w.g.length - x.i = m /\ x.l = insK a.w a.k (x.i + 1) -> ∃ y : GsK, (y.l.length = x.l.length /\ (y.i : Int) = IntKind.i64.wrap ((x.i : Int) + 1) /\ y.l.length = x.l.length /\ ∀ (i : Nat), i < y.l.length -> (gD y.l i).st = (gD x.l i).st /\ (gD y.l i).lo = (gD x.l i).lo /\ (gD y.l i).hi = (gD x.l i).hi) /\ (y.i <= a.w.g.length /\ y.l = insK a.w a.k y.i) /\ a.w.g.length - y.i < m := λ m x h => ⟨⟨x.i + 1, x.l⟩, ⟨rfl, (wsucc (by omega)).symm, rfl, λ _ _ => ⟨rfl, rfl, rfl⟩⟩, ⟨h.1, h.2.2⟩, by show a.w.g.length - (x.i + 1) < m; omega⟩
 have ne : ∀ (i : Nat), i < a.w.g.length -> insK a.w a.k i = [] -> inA a.w a.k i = false -> insK a.w a.k (i + 1) = [] := λ i hi h1 h2 => by
  rw [insK_succ hi, h2, h1]; simp
 refine ⟨rfl, ⟨0, ⟨rfl, λ i hi => by simp⟩, Nat.zero_le _⟩, λ i hi => ⟨λ hlt => ⟨⟨by omega, by omega⟩, ⟨⟨by omega, hasc⟩, ⟨by omega, by omega⟩, by omega⟩, i + 1, ⟨(wsucc (by omega)).symm, λ j hj => ?_⟩, by omega, by omega⟩, λ hge => ⟨⟨0, ⟨rfl, λ j hj => by rw [show i = a.w.g.length by omega]⟩, Nat.zero_le _, by simp [insK]⟩,
  λ i hi => ⟨λ hlt => ⟨⟨⟨by omega, by omega⟩, ⟨⟨by omega, by omega⟩, by omega⟩, λ hp => ⟨by simp, ⟨i, [gD a.w.g i]⟩, ⟨rfl, rfl, rfl, λ j hj => ?_⟩, Int.ofNat_lt.1 hlt, rfl, ?_⟩, λ hp => ⟨i, rfl, by omega, rfl, ne i (by omega) hi.2 ?_⟩⟩, cn _, co _⟩, λ hge => ?_⟩,
  λ x hx => ⟨λ hlt => ⟨⟨⟨by omega, by omega⟩, ⟨⟨by omega, by omega⟩, by omega⟩, λ hp => ⟨⟨by simp, by simp, ?_, ?_⟩, ⟨x.i, x.l ++ [gD a.w.g x.i]⟩, ⟨by simp, rfl, by simp, snocG _ _⟩, Int.ofNat_lt.1 hlt, rfl, ?_⟩, λ hp => ⟨⟨x.i, x.l⟩, ⟨rfl, rfl, rfl, λ _ _ => ⟨rfl, rfl, rfl⟩⟩, Int.ofNat_lt.1 hlt, rfl, ?_⟩⟩, cn _, co _⟩, λ hge => ?_⟩⟩⟩⟩
 ·by_cases h1 : j = i
  ·subst h1; simp [inA]
  ·by_cases h2 : j < i
   ·simp [h1, h2, show j < i + 1 by omega]
   ·simp [h1, h2, show ¬ j < i + 1 by omega]
 ·have : j = 0 := by have hj : j < 1 := hj; omega
  subst this; exact ⟨rfl, rfl, rfl⟩
 ·have hlt' : i < a.w.g.length := Int.ofNat_lt.1 hlt
  show [gD a.w.g i] = _
  rw [insK_succ hlt', hi.2, if_pos (by simpa [hlt'] using hp)]; rfl
 ·have hlt' : i < a.w.g.length := Int.ofNat_lt.1 hlt
  simpa [hlt'] using hp
 ·rw [<- insK_all (i := i) (by omega), hi.2]; rfl
 ·have := insK_len (w := a.w) (k := a.k) (i := x.i); rw [<- hx.2] at this; omega
 ·have := insK_len (w := a.w) (k := a.k) (i := x.i); rw [<- hx.2] at this; omega
 ·show x.l ++ _ = _
  have hlt' : x.i < a.w.g.length := Int.ofNat_lt.1 hlt
  rw [insK_succ hlt', <- hx.2, if_pos (by simpa [hlt'] using hp)]
 ·show x.l = _
  have hlt' : x.i < a.w.g.length := Int.ofNat_lt.1 hlt
  rw [insK_succ hlt', <- hx.2, if_neg (by simpa [hlt'] using hp)]
 ·have e : x.l = insM a.w a.k := by rw [hx.2, insK_all (by omega)]
  rw [e]; exact ⟨rfl, Nat.le_refl _, λ _ _ => ⟨rfl, rfl, rfl⟩⟩
theorem ok_inside : SpecOk Try.prog n_inside (C_inside.spec dBkI) := okC C_inside A_inside [] [202] fn_inside (λ _ => by kernel_rfl) (λ _ => gok_cons ok_part gok_nil) (λ (a : BkI) h => p_inside a (show bkOk a.w.g a.w.b /\ True from h).1) (λ _ => noI rfl rfl) _
def spanM (w : Bk) (k : Int) : Span := ⟨bif decide (k > 0) then gD w.b (k - 1).toNat else 0, bif decide (k < w.b.length) then wr (gD w.b k.toNat - 1) else 2000⟩
def C_span : Ctr := { ro := [100, 101], α := BkI, xs := λ a => [.bptr 100 0, .int a.k], L := λ a => bkL a.w, val := λ a => .d (eSpan (spanM a.w a.k)), keep := λ a => bkK a.w, pre := λ a => [bkOk a.w.g a.w.b /\ 0 <= a.k /\ a.k <= a.w.b.length] }
def A_span : Ann := { ann 38 [] with E := [100, 101] }
def V_span (a : BkI) : Prop := fnVC Try.prog A_span F_span (bodyOf F_span) (C_span.xs a) (heapOf (C_span.L a)) (C_span.val a) (C_span.keep a) [] []
abbrev z_span_0 (a : BkI) : Int := IntKind.i64.wrap (a.k - 1)
abbrev z_span_1 (a : BkI) : Prop := a.k < (↑a.w.b.length : Int)
abbrev z_span_2 (a : BkI) : Bool := decide (z_span_1 a)
abbrev z_span_3 (a : BkI) : Prop := 0 <= a.k /\ z_span_1 a
abbrev z_span_4 (a : BkI) : Prop := (spanM a.w a.k).lo = gD a.w.b (z_span_0 a).toNat
abbrev z_span_5 : Value := Value.slice none 0 0
abbrev z_span_6 (a : BkI) : Prop := a.w.g.length = a.w.g.length /\ (∀ (i : Nat), i < a.w.g.length -> (gD a.w.g i).st = (gD a.w.g i).st /\ (gD a.w.g i).lo = (gD a.w.g i).lo /\ (gD a.w.g i).hi = (gD a.w.g i).hi) /\ a.w.b.length
 = a.w.b.length /\ (∀ (i : Nat), i < a.w.b.length -> gD a.w.b i = gD a.w.b i) /\ z_span_5 = z_span_5 /\ (∀ (n : Int), a.w.has n = a.w.has n) /\ (∀ (n : Int), a.w.st n = a.w.st n) /\ ∀ (n : Int), (fdM a.w n).length = (fdM a.w
 n).length /\ ∀ (i : Nat), i < (fdM a.w n).length -> (gD (fdM a.w n) i).a0 = (gD (fdM a.w n) i).a0 /\ (gD (fdM a.w n) i).a1 = (gD (fdM a.w n) i).a1 /\ (gD (fdM a.w n) i).b0 = (gD (fdM a.w n) i).b0 /\ (gD (fdM a.w n) i).b1 =
 (gD (fdM a.w n) i).b1
abbrev z_span_7 (a : BkI) : Prop := (spanM a.w a.k).hi = IntKind.i64.wrap (gD a.w.b a.k.toNat - 1) /\ z_span_6 a
abbrev z_span_8 (a : BkI) : Prop := (spanM a.w a.k).hi = 2000 /\ z_span_6 a
abbrev z_span_9 (a : BkI) : Prop := (spanM a.w a.k).lo = 0
theorem vc_span (a : BkI) : (V_span a) = (bif decide (a.k > 0) then (0 <= z_span_0 a /\ z_span_0 a < (↑a.w.b.length : Int)) /\ bif z_span_2 a then z_span_3 a /\ z_span_4 a /\ z_span_7 a else z_span_4 a /\ z_span_8 a else bif
 z_span_2 a then z_span_3 a /\ z_span_9 a /\ z_span_7 a else z_span_9 a /\ z_span_8 a) := by kernel_rfl
theorem ok_span : SpecOk Try.prog n_span (C_span.spec dBkI) := okC C_span (λ _ => A_span) [] [] fn_span (λ _ => by kernel_rfl) (λ _ => gok_nil) (λ (a : BkI) h => by
 show V_span a; rw [vc_span]; delta z_span_0 z_span_1 z_span_2 z_span_3 z_span_4 z_span_5 z_span_6 z_span_7 z_span_8 z_span_9; simp only [condP, eq_self, implies_true, and_self, true_and, and_true, true_implies, forall_const, decide_eq_true_eq, decide_eq_false_iff_not, Int.toNat_natCast, dSpan_eSpan, dInt_eInt, dGau_e, dPt_e, dLn_e, dRt_e, Nat.zero_add, Int.zero_sub, Nat.le_eq, Nat.succ_eq_add_one, Nat.add_one_le_iff, Bool.not_eq_true', Bool.not_eq_false', rng_length, dSpan_mk, rng_getD]
 obtain ⟨⟨hg, hgo, hb, hasc, hbr⟩, h1, h2⟩ : bkOk a.w.g a.w.b /\ 0 <= a.k /\ a.k <= a.w.b.length := h
 rw [w64 (n := a.k - 1) (by omega) (by omega)]
 unfold spanM wr
 refine ⟨λ h3 => ⟨by omega, λ h4 => ⟨by omega, ?_, ?_⟩, λ h4 => ⟨?_, ?_⟩⟩, λ h3 => ⟨λ h4 => ⟨by omega, ?_, ?_⟩, λ h4 => ⟨?_, ?_⟩⟩⟩ <;> simp [h3, h4]) (λ _ => noI rfl rfl) _
structure GB where
 g : List Gau
 b : List Int
def dGB : List AVal -> Heap -> Option (GB × List (Nat × Nat) × List Nat)
 | [x, y], H => match dGaus x H, dInts y H with
  | some (l, f), some (m, e) => some (⟨l, m⟩, [], f ++ e)
  | _, _ => none
 | _, _ => none
def xGB (a : GB) : List AVal := [.d (eGaus a.g), .d (eIntsL a.b)]
def openE (a : GB) : Int := bif checkG a.g == 0 then checkBM a.b else checkG a.g
def newB (a : GB) : Bk := ⟨a.g, a.b, λ _ => false, λ _ => 0⟩
def C_open : Ctr := { α := GB, xs := xGB, L := λ _ => [], val := λ _ => .tup [.bptr 0 0, .int 0], keep := λ a => [(0, .live (bkB (newB a) 1)), (1, .live (bkM (newB a)))], pre := λ a => [a.g.length < 4611686018427387904 /\ a.b.length < 4611686018427387904 /\ openE a = 0] }
def C_openX : Ctr := { α := GB, xs := xGB, L := λ _ => [], val := λ a => .tup [.d (.v (.pointer none)), .int (openE a)], keep := λ _ => [], pre := λ a => [a.g.length < 4611686018427387904 /\ a.b.length < 4611686018427387904 /\ openE a ≠ 0] }
def A_open : Ann := ann 22 [(n_Check, C_Check.spec dGs1), (n_checkB, C_checkB.spec dIs1)]
def V_open (a : GB) : Prop := fnVC Try.prog A_open F_opened (bodyOf F_opened) (xGB a) (heapOf []) (C_open.val a) (C_open.keep a) [(0, 7080), (1, 7048)] []
theorem vc_open (a : GB) : (V_open a) = (((rng a.g.length λ (i : Nat) => gD a.g i).length = a.g.length /\ (∀ (i : Nat), i < (rng a.g.length λ (i : Nat) => gD a.g i).length -> (gD (rng a.g.length λ (i : Nat) => gD a.g
 i) i).st = (gD a.g i).st /\ (gD (rng a.g.length λ (i : Nat) => gD a.g i) i).lo = (gD a.g i).lo /\ (gD (rng a.g.length λ (i : Nat) => gD a.g i) i).hi = (gD a.g i).hi) /\ (rng a.g.length λ (i : Nat) => gD a.g i).length
 < (4611686018427387904 : Nat) /\ True) /\ bif checkG (rng a.g.length λ (i : Nat) => gD a.g i) == (0 : Int) then ((rng a.b.length λ (i : Nat) => gD a.b i).length = a.b.length /\ (∀ (i : Nat), i < (rng a.b.length λ (i :
 Nat) => gD a.b i).length -> gD (rng a.b.length λ (i : Nat) => gD a.b i) i = gD a.b i) /\ (rng a.b.length λ (i : Nat) => gD a.b i).length < (4611686018427387904 : Nat) /\ True) /\ bif checkBM (rng a.b.length λ (i : Nat)
 => gD a.b i) != (0 : Int) then False else Int.ofNat (0 : Nat) = Int.ofNat (0 : Nat) /\ (newB a).g.length = a.g.length /\ (∀ (i : Nat), i < (newB a).g.length -> (gD (newB a).g i).st = (gD a.g i).st /\ (gD (newB a).g i).lo =
 (gD a.g i).lo /\ (gD (newB a).g i).hi = (gD a.g i).hi) /\ (newB a).b.length = a.b.length /\ (∀ (i : Nat), i < (newB a).b.length -> gD (newB a).b i = gD a.b i) /\ Value.slice none (0 : Nat) (0 : Nat) = Value.slice none (0 :
 Nat) (0 : Nat) /\ (∀ (n : Int), false = false) /\ (∀ (n : Int), (newB a).st n = (0 : Int)) /\ ∀ (n : Int), (fdM (newB a) n).length = (0 : Nat) /\ (fdM (newB a) n).length = (0 : Nat) else bif checkG (rng a.g.length λ (i :
 Nat) => gD a.g i) != (0 : Int) then False else Int.ofNat (0 : Nat) = Int.ofNat (0 : Nat) /\ (newB a).g.length = a.g.length /\ (∀ (i : Nat), i < (newB a).g.length -> (gD (newB a).g i).st = (gD a.g i).st /\ (gD (newB a).g
 i).lo = (gD a.g i).lo /\ (gD (newB a).g i).hi = (gD a.g i).hi) /\ (newB a).b.length = a.b.length /\ (∀ (i : Nat), i < (newB a).b.length -> gD (newB a).b i = gD a.b i) /\ Value.slice none (0 : Nat) (0 : Nat) = Value.slice none
 (0 : Nat) (0 : Nat) /\ (∀ (n : Int), false = false) /\ (∀ (n : Int), (newB a).st n = (0 : Int)) /\ ∀ (n : Int), (fdM (newB a) n).length = (0 : Nat) /\ (fdM (newB a) n).length = (0 : Nat)) := by kernel_rfl
def V_openX (a : GB) : Prop := fnVC Try.prog A_open F_opened (bodyOf F_opened) (xGB a) (heapOf []) (C_openX.val a) [] [] []
theorem vc_openX (a : GB) : (V_openX a) = (((rng a.g.length λ (i : Nat) => gD a.g i).length = a.g.length /\ (∀ (i : Nat), i < (rng a.g.length λ (i : Nat) => gD a.g i).length -> (gD (rng a.g.length λ (i : Nat) => gD
 a.g i) i).st = (gD a.g i).st /\ (gD (rng a.g.length λ (i : Nat) => gD a.g i) i).lo = (gD a.g i).lo /\ (gD (rng a.g.length λ (i : Nat) => gD a.g i) i).hi = (gD a.g i).hi) /\ (rng a.g.length λ (i : Nat) => gD a.g
 i).length < 4611686018427387904 /\ True) /\ bif checkG (rng a.g.length λ (i : Nat) => gD a.g i) == 0 then ((rng a.b.length λ (i : Nat) => gD a.b i).length = a.b.length /\ (∀ (i : Nat), i < (rng a.b.length λ (i : Nat)
 => gD a.b i).length -> gD (rng a.b.length λ (i : Nat) => gD a.b i) i = gD a.b i) /\ (rng a.b.length λ (i : Nat) => gD a.b i).length < 4611686018427387904 /\ True) /\ bif checkBM (rng a.b.length λ (i : Nat) => gD a.b i)
 != 0 then Value.pointer none = Value.pointer none /\ openE a = checkBM (rng a.b.length λ (i : Nat) => gD a.b i) else False else bif checkG (rng a.g.length λ (i : Nat) => gD a.g i) != 0 then Value.pointer none =
 Value.pointer none /\ openE a = checkG (rng a.g.length λ (i : Nat) => gD a.g i) else False) := by kernel_rfl
theorem ok_open : SpecOk Try.prog n_opened (C_open.spec dGB) := okC C_open (λ _ => A_open) [(0, 7080), (1, 7048)] [] fn_opened (λ _ => by kernel_rfl) (λ _ => gok_cons ok_Check (gok_cons ok_checkB gok_nil)) (λ (a : GB) h => by
 show V_open a; rw [vc_open]; simp only [condP, eq_self, implies_true, and_self, true_and, and_true, true_implies, forall_const, decide_eq_true_eq, decide_eq_false_iff_not, Int.toNat_natCast, dSpan_eSpan, dInt_eInt, dGau_e, dPt_e, dLn_e, dRt_e, Nat.zero_add, Int.zero_sub, Nat.le_eq, Nat.succ_eq_add_one, Nat.add_one_le_iff, Bool.not_eq_true', Bool.not_eq_false', rng_length, dSpan_mk, rng_getD]
 obtain ⟨h1, h2, h3⟩ : a.g.length < 4611686018427387904 /\ a.b.length < 4611686018427387904 /\ openE a = 0 := h
 have key : (newB a).g.length = a.g.length /\ (∀ i : Nat, i < (newB a).g.length -> (gD (newB a).g i).st = (gD a.g i).st /\ (gD (newB a).g i).lo = (gD a.g i).lo /\ (gD (newB a).g i).hi = (gD a.g i).hi) /\ (newB a).b.length = a.b.length /\ (∀ i : Nat, i < (newB a).b.length -> gD (newB a).b i = gD a.b i) /\ (∀ n : Int, (newB a).st n = 0) /\ ∀ n : Int, (fdM (newB a) n).length = 0 := ⟨rfl, λ _ _ => ⟨rfl, rfl, rfl⟩, rfl, λ _ _ => rfl, λ _ => rfl, λ _ => rfl⟩
 unfold openE at h3
 refine ⟨h1, λ h4 => ⟨h2, λ h5 => ?_, λ _ => key⟩, λ h4 => ⟨λ h5 => ?_, λ _ => key⟩⟩
 ·rw [h4] at h3; simp at h3 h5; exact h5 h3
 ·rw [h4] at h3; simp at h3 h5; exact h5 h3) (λ _ => noI rfl rfl) _
theorem ok_openX : SpecOk Try.prog n_opened (C_openX.spec dGB) := okC C_openX (λ _ => A_open) [] [] fn_opened (λ _ => by kernel_rfl) (λ _ => gok_cons ok_Check (gok_cons ok_checkB gok_nil)) (λ (a : GB) h => by
 show V_openX a; rw [vc_openX]; simp only [condP, eq_self, implies_true, and_self, true_and, and_true, true_implies, forall_const, decide_eq_true_eq, decide_eq_false_iff_not, Int.toNat_natCast, dSpan_eSpan, dInt_eInt, dGau_e, dPt_e, dLn_e, dRt_e, Nat.zero_add, Int.zero_sub, Nat.le_eq, Nat.succ_eq_add_one, Nat.add_one_le_iff, Bool.not_eq_true', Bool.not_eq_false', rng_length, dSpan_mk, rng_getD]
 obtain ⟨h1, h2, h3⟩ : a.g.length < 4611686018427387904 /\ a.b.length < 4611686018427387904 /\ openE a ≠ 0 := h
 refine ⟨h1, λ h4 => ⟨h2, λ h5 => ?_, λ h5 => h3 ?_⟩, λ h4 => ⟨λ h5 => ?_, λ h5 => h3 ?_⟩⟩
 ·unfold openE; rw [h4]; rfl
 ·unfold openE; rw [h4]; simpa using h5
 ·unfold openE; rw [h4]; rfl
 ·unfold openE; rw [h4]; simpa using h5) (λ _ => noI rfl rfl) _
end Go.Bal
