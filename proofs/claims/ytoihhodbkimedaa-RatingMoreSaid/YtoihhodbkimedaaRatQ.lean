/- Package rating: knots. -/
import Derived.Test.YtoihhodbkimedaaRatP
set_option linter.unusedVariables false
set_option linter.unusedSimpArgs false
namespace Go.Bal
open Go Go.Sym Go.Proofs
def C_isKnot : Ctr := { C_line with val := λ (s : List Gau) => .bool (!(lineM s).2) }
def V_isKnot (s : List Gau) : Prop := fnVC Try.prog (ann 12 [(n_line, C_line.spec dGsK)]) F_isKnot (bodyOf F_isKnot) (C_isKnot.xs s) (heapOf []) (C_isKnot.val s) [] [] []
theorem vc_isKnot (s : List Gau) : (V_isKnot s) = (((rng s.length λ (i : Nat) => gD s i).length = s.length /\ (∀ (i : Nat), i < (rng s.length λ (i : Nat) => gD s i).length -> (gD (rng s.length λ (i : Nat) => gD s i)
 i).st = (gD s i).st /\ (gD (rng s.length λ (i : Nat) => gD s i) i).lo = (gD s i).lo /\ (gD (rng s.length λ (i : Nat) => gD s i) i).hi = (gD s i).hi) /\ (rng s.length λ (i : Nat) => gD s i).length < 1073741824 /\ ∀ (g :
 Gau), List.Mem g (rng s.length λ (i : Nat) => gD s i) -> 0 <= g.st /\ g.st <= 2000 /\ 0 <= g.lo /\ g.lo <= g.hi /\ g.hi <= 200000) /\ (!(lineM s).snd) = !(lineM (rng s.length λ (i : Nat) => gD s i)).snd) := by kernel_rfl
structure GG where
 a : Gau
 b : Gau
def dGG : List AVal -> Option GG
 | [.d (.agg [.v (.int .i64 a), .v (.int .i64 b), .v (.int .i64 c)]), .d (.agg [.v (.int .i64 p), .v (.int .i64 q), .v (.int .i64 r)])] => some ⟨⟨a, b, c⟩, ⟨p, q, r⟩⟩
 | _ => none
def xGG (a : GG) : List AVal := [.d (eGau a.a), .d (eGau a.b)]
def s_nm2 := pD dGG λ a => .int (cmpM a.a.st a.b.st)
def V_nm2 (a : GG) : Prop := fnVC Try.prog (ann 10 [(n_cmpI, s_cmpI)]) F_named2 (bodyOf F_named2) (xGG a) (heapOf []) (.int (cmpM a.a.st a.b.st)) [] [] []
theorem vc_nm2 (a : GG) : (V_nm2 a) = (cmpM a.a.st a.b.st = cmpM a.a.st a.b.st) := by kernel_rfl
def srtK (s : List Gau) : Nat -> Bool
 | 0 => true
 | k + 1 => bif decide (cmpM (gD s (k + 1)).st (gD s k).st < 0) then false else srtK s k
def srtM (s : List Gau) : Bool := srtK s (s.length - 1)
def C_sorted : Ctr := { α := List Gau, xs := λ s => [.d (eGaus s), .fn (.func n_named2) [] []], L := λ _ => [], val := λ s => .bool (srtM s), keep := λ _ => [], pre := λ s => [0 < s.length /\ s.length < 1073741824] }
def d_sorted : List AVal -> Heap -> Option (List Gau × List (Nat × Nat) × List Nat)
 | [y, .fn (.func g) [] []], H => if g = n_named2 then match dGaus y H with
  | some (l, f) => some (l, [], f)
  | none => none else none
 | _, _ => none
def so2 (s : List Gau) : Shape := { α := Nat, dflt := 0, T := λ k => ⟨[(0, .d (eGaus s)), (1, .fn (.func n_named2) [] []), (5, .int k)], []⟩, inv := λ k => k + 1 <= s.length /\ srtM s = srtK s k, meas := λ k => k }
def A_sorted (s : List Gau) : Ann := { ann 25 [(n_named2, s_nm2)] with loops := λ id => if id = 2 then some [so2 s] else none }
def V_sorted (s : List Gau) : Prop := fnVC Try.prog (A_sorted s) F_sorted (bodyOf F_sorted) (C_sorted.xs s) (heapOf []) (C_sorted.val s) [] [] []
theorem vc_sorted (s : List Gau) : (V_sorted s) = ((∃ (a : Nat), (s.length = s.length /\ (∀ (i : Nat), i < s.length -> (gD s i).st = (gD s i).st /\ (gD s i).lo = (gD s i).lo /\ (gD s i).hi = (gD s i).hi) /\ (↑a : Int) =
 IntKind.i64.wrap ((↑s.length : Int) - 1)) /\ a + 1 <= s.length /\ srtM s = srtK s a) /\ ∀ (a : Nat), a + 1 <= s.length /\ srtM s = srtK s a -> bif decide ((↑a : Int) > 0) then ((0 <= (↑a : Int) /\ (↑a : Int) < (↑s.length : Int))
 /\ 0 <= IntKind.i64.wrap ((↑a : Int) - 1) /\ IntKind.i64.wrap ((↑a : Int) - 1) < (↑s.length : Int)) /\ bif decide (cmpM (gD s a).st (gD s (IntKind.i64.wrap ((↑a : Int) - 1)).toNat).st < 0) then srtM s = false else ∃ (a_2 :
 Nat), (s.length = s.length /\ (∀ (i : Nat), i < s.length -> (gD s i).st = (gD s i).st /\ (gD s i).lo = (gD s i).lo /\ (gD s i).hi = (gD s i).hi) /\ (↑a_2 : Int) = IntKind.i64.wrap ((↑a : Int) - 1)) /\ (a_2 + 1 <= s.length /\
 srtM s = srtK s a_2) /\ a_2 < a else srtM s = true) := by kernel_rfl
structure GK where
 g : List Gau
 k : List Int
def dGK : List AVal -> Heap -> Option (GK × List (Nat × Nat) × List Nat)
 | [x, y], H => match dGaus x H, dInts y H with
  | some (l, f), some (m, e) => some (⟨l, m⟩, [], f ++ e)
  | _, _ => none
 | _, _ => none
def xGK (a : GK) : List AVal := [.d (eGaus a.g), .d (eIntsL a.k)]
def nmL (a : GK) : List Gau := a.k.map λ i => gD a.g i.toNat
def nmOk (a : GK) : Bool := bif inM a.k.length 2 3 then a.k.all λ x => inM x 0 (wr (a.g.length - 1)) else false
def nmB (s : List Gau) : Bool := bif srtM s then decide ((gD s 0).st < (gD s (s.length - 1)).st) else false
def nmM (a : GK) : List Gau × Bool := bif nmOk a then (nmL a, nmB (nmL a)) else ([], false)
def C_named : Ctr := { α := GK, xs := xGK, L := λ _ => [], val := λ a => .tup [.d (eGaus (nmM a).1), .bool (nmM a).2], keep := λ _ => [], pre := λ a => [a.g.length < 1073741824 /\ a.k.length < 1073741824] }
def nm5n (a : GK) : Shape := { α := One, dflt := default, T := λ _ => ⟨[(2, .bptr 200 0), (6, .d nilL), (20, .d (eIntsL a.k)), (21, .int a.k.length), (22, .int 0)], [(200, .live (.box [.d (eGaus a.g)]))]⟩, inv := λ _ => nmOk a = true, meas := λ _ => a.k.length + 1, first := [(200, 1000)] }
def nm5o (a : GK) : Shape := { α := GsK, dflt := default, T := λ x => ⟨[(2, .bptr 200 0), (6, .own 201 3 0 x.l.length), (20, .d (eIntsL a.k)), (21, .int a.k.length), (22, .int x.i)], [(200, .live (.box [.d (eGaus a.g)])), (201, .live (rowG x.l))]⟩, inv := λ x => nmOk a = true /\ 1 <= x.i /\ x.i <= a.k.length /\ x.l = (a.k.take x.i).map λ i => gD a.g i.toNat, meas := λ x => a.k.length - x.i, again := [(201, 8096)] }
def nm9 (a : GK) : Shape := { α := One, dflt := default, T := λ _ => ⟨[(6, .d (eGaus (nmL a)))], []⟩, inv := λ _ => nmOk a = true, meas := λ _ => 0, ffz := [201] }
def A_named (a : GK) : Ann := { ann 52 [(n_in, s_in), (n_eI, C4In.spec d4In), (n_sorted, C_sorted.spec d_sorted)] with mt := λ id => id == 7, loops := λ id => if id = 5 then some [nm5n a, nm5o a] else none, cut := λ id => if id = 9 then some [nm9 a] else none }
def V_named (a : GK) : Prop := fnVC Try.prog (A_named a) F_named (bodyOf F_named) (C_named.xs a) (heapOf []) (C_named.val a) [] [] []
abbrev z_named_0 (a : GK) : Bool := !inM (↑a.k.length : Int) (2 : Int) (3 : Int)
abbrev z_named_1 (a : GK) : List Int := rng a.k.length λ (i : Nat) => gD a.k i
abbrev z_named_2 (a : GK) : Nat := (z_named_1 a).length
abbrev z_named_3 (a : GK) : List Gau := rng a.g.length λ (i : Nat) => gD a.g i
abbrev z_named_4 (a : GK) : Nat := (z_named_3 a).length
abbrev z_named_5 (a : GK) (i : Nat) : Gau := gD (z_named_3 a) i
abbrev z_named_6 (a : GK) (i : Nat) : Int := (z_named_5 a i).st
abbrev z_named_7 (a : GK) (i : Nat) : Int := (z_named_5 a i).lo
abbrev z_named_8 (a : GK) (i : Nat) : Int := (z_named_5 a i).hi
abbrev z_named_9 (a : GK) : Prop := (nmM a).fst.length = (0 : Nat)
abbrev z_named_10 : Prop := (0 : Nat) = (0 : Nat)
abbrev z_named_11 (a : GK) : Prop := a.k.length = a.k.length
abbrev z_named_12 (a : GK) : Prop := ∀ (i : Nat), i < a.k.length -> gD a.k i = gD a.k i
abbrev z_named_13 (a : GK) : Prop := (↑a.k.length : Int) = (↑a.k.length : Int)
abbrev z_named_14 (a : GK) : Prop := a.g.length = a.g.length
abbrev z_named_15 (a : GK) : Prop := ∀ (i : Nat), i < a.g.length -> (gD a.g i).st = (gD a.g i).st /\ (gD a.g i).lo = (gD a.g i).lo /\ (gD a.g i).hi = (gD a.g i).hi
abbrev z_named_16 (a : GK) : Prop := (0 : Int) < (↑a.k.length : Int)
abbrev z_named_17 : Prop := (0 : Int) <= (0 : Int)
abbrev z_named_18 (a : GK) : Int := gD a.k (0 : Nat)
abbrev z_named_19 : Prop := (0 : Nat) < (1 : Nat)
abbrev z_named_20 : Prop := (3 : Nat) = (3 : Nat)
abbrev z_named_21 : Prop := (1 : Nat) <= (1 : Nat) /\ (z_named_19 -> z_named_20)
abbrev z_named_22 (a : GsK) : Prop := a.l.length = (1 : Nat)
abbrev z_named_23 (a : GK) : Gau := gD a.g (gD a.k (Int.toNat (0 : Int))).toNat
abbrev z_named_24 (a : GK) (a1 : GsK) : Prop := nmOk a = true /\ (1 : Nat) <= a1.i /\ a1.i <= a.k.length /\ a1.l = List.map (λ (i : Int) => gD a.g i.toNat) (List.take a1.i a.k)
abbrev z_named_25 (a : GK) (a1 : GsK) : Nat := a.k.length - a1.i
abbrev z_named_26 (a : GK) : Prop := (nmL a).length = (0 : Nat)
abbrev z_named_27 (a : GsK) (a1 : GK) : Prop := (↑a.i : Int) < (↑a1.k.length : Int)
abbrev z_named_28 (a : GsK) : Nat := a.l.length + (1 : Nat)
abbrev z_named_29 (a : GsK) (a1 : GsK) : Prop := a.l.length = z_named_28 a1
abbrev z_named_30 (i : Nat) (a : GsK) : Bool := decide (i < a.l.length)
abbrev z_named_31 (a : GK) (a1 : GsK) : Gau := gD a.g (gD a.k a1.i).toNat
abbrev z_named_32 (a : GsK) (j : Nat) : Gau := gD a.l ((0 : Nat) + j)
abbrev z_named_33 (a : GK) : List Gau := rng (nmL a).length λ (i : Nat) => gD (nmL a) i
abbrev z_named_34 (a : GK) : Nat := (z_named_33 a).length
abbrev z_named_35 (a : GK) (i : Nat) : Gau := gD (z_named_33 a) i
abbrev z_named_36 (a : GK) : Bool := srtM (z_named_33 a)
abbrev z_named_37 (a : GK) : Prop := z_named_36 a = true
abbrev z_named_38 (a : GK) : Int := IntKind.i64.wrap ((↑(nmL a).length : Int) - (1 : Int))
abbrev z_named_39 (a : GK) (i : Nat) : Gau := gD (nmM a).fst i
theorem vc_named (a : GK) : (V_named a) = (((!z_named_0 a) = true -> z_named_2 a = a.k.length /\ (∀ (i : Nat), i < z_named_2 a -> gD (z_named_1 a) i = gD a.k i) /\ z_named_4 a = a.g.length /\ (∀ (i : Nat), i < z_named_4 a ->
 z_named_6 a i = (gD a.g i).st /\ z_named_7 a i = (gD a.g i).lo /\ z_named_8 a i = (gD a.g i).hi) /\ a.g.length = z_named_4 a /\ (∀ (i : Nat), i < a.g.length -> (gD a.g i).st = z_named_6 a i /\ (gD a.g i).lo = z_named_7 a i /\
 (gD a.g i).hi = z_named_8 a i) /\ z_named_2 a < (4611686018427387904 : Nat) /\ True) /\ bif bif z_named_0 a then true else !(z_named_1 a).all λ (x : Int) => inM x (0 : Int) (wr ((↑(z_named_4 a) : Int) - (1 : Int))) then
 z_named_9 a /\ z_named_9 a /\ (nmM a).snd = false else ((∃ (a_1 : One), (z_named_10 /\ (∀ (i : Nat), i < (0 : Nat) -> false = false) /\ z_named_11 a /\ z_named_12 a /\ z_named_13 a /\ Int.ofNat (0 : Nat) = Int.ofNat (0 : Nat) /\
 z_named_14 a /\ z_named_15 a) /\ nmOk a = true) /\ (∀ (a_1 : One), nmOk a = true -> bif decide (z_named_16 a) then (z_named_17 /\ z_named_16 a) /\ (((0 : Int) <= z_named_18 a /\ z_named_18 a < (↑a.g.length : Int)) /\ (True /\ ((0
 : Nat) < (0 : Nat) -> (0 : Nat) = (3 : Nat))) /\ z_named_21 /\ (true = true -> z_named_19) /\ (1 : Nat) <= (9223372036854775807 : Nat) /\ (24 : Nat) <= (140737488355328 : Nat)) /\ ∃ (a_3 : GsK), (z_named_10 /\ z_named_22 a_3 /\
 z_named_11 a /\ z_named_12 a /\ z_named_13 a /\ (↑a_3.i : Int) = IntKind.i64.wrap ((0 : Int) + (1 : Int)) /\ z_named_14 a /\ z_named_15 a /\ z_named_22 a_3 /\ ∀ (i : Nat), i < a_3.l.length -> (gD a_3.l i).st = (z_named_23 a).st
 /\ (gD a_3.l i).lo = (z_named_23 a).lo /\ (gD a_3.l i).hi = (z_named_23 a).hi) /\ z_named_24 a a_3 /\ z_named_25 a a_3 < a.k.length + (1 : Nat) else ∃ (a_3 : One), (z_named_26 a /\ z_named_26 a) /\ nmOk a = true) /\ ∀ (a_1 :
 GsK), z_named_24 a a_1 -> bif decide (z_named_27 a_1 a) then ((0 : Int) <= (↑a_1.i : Int) /\ z_named_27 a_1 a) /\ (((0 : Int) <= gD a.k a_1.i /\ gD a.k a_1.i < (↑a.g.length : Int)) /\ (a_1.l.length = a_1.l.length /\ ((0 : Nat) <
 a_1.l.length -> z_named_20)) /\ z_named_21 /\ (false = true -> z_named_19) /\ z_named_28 a_1 <= (9223372036854775807 : Nat) /\ z_named_28 a_1 * (24 : Nat) <= (140737488355328 : Nat)) /\ ∃ (a_3 : GsK), (z_named_10 /\ z_named_29 a_3
 a_1 /\ z_named_11 a /\ z_named_12 a /\ z_named_13 a /\ (↑a_3.i : Int) = IntKind.i64.wrap ((↑a_1.i : Int) + (1 : Int)) /\ z_named_14 a /\ z_named_15 a /\ z_named_29 a_3 a_1 /\ ∀ (i : Nat), i < a_3.l.length -> ((gD a_3.l i).st =
 bif z_named_30 i a_1 then (gD a_1.l i).st else (z_named_31 a a_1).st) /\ ((gD a_3.l i).lo = bif z_named_30 i a_1 then (gD a_1.l i).lo else (z_named_31 a a_1).lo) /\ (gD a_3.l i).hi = bif z_named_30 i a_1 then (gD a_1.l
 i).hi else (z_named_31 a a_1).hi) /\ z_named_24 a a_3 /\ z_named_25 a a_3 < z_named_25 a a_1 else ∃ (a_3 : One), ((nmL a).length = a_1.l.length /\ (0 : Nat) + a_1.l.length <= a_1.l.length /\ ∀ (j : Nat), j < (nmL a).length ->
 (gD (nmL a) j).st = (z_named_32 a_1 j).st /\ (gD (nmL a) j).lo = (z_named_32 a_1 j).lo /\ (gD (nmL a) j).hi = (z_named_32 a_1 j).hi) /\ nmOk a = true) /\ ∀ (a_1 : One), nmOk a = true -> (z_named_34 a = (nmL a).length /\ (∀ (i
 : Nat), i < z_named_34 a -> (z_named_35 a i).st = (gD (nmL a) i).st /\ (z_named_35 a i).lo = (gD (nmL a) i).lo /\ (z_named_35 a i).hi = (gD (nmL a) i).hi) /\ (0 : Nat) < z_named_34 a /\ z_named_34 a < (1073741824 : Nat)) /\
 ((z_named_37 a -> z_named_17 /\ (0 : Int) < (↑(nmL a).length : Int)) /\ (z_named_37 a -> (0 : Int) <= z_named_38 a /\ z_named_38 a < (↑(nmL a).length : Int))) /\ (nmM a).fst.length = (nmL a).length /\ (∀ (i : Nat), i < (nmM
 a).fst.length -> (z_named_39 a i).st = (gD (nmL a) i).st /\ (z_named_39 a i).lo = (gD (nmL a) i).lo /\ (z_named_39 a i).hi = (gD (nmL a) i).hi) /\ (nmM a).snd = bif z_named_36 a then decide ((gD (nmL a) (Int.toNat (0 :
 Int))).st < (gD (nmL a) (z_named_38 a).toNat).st) else false) := by kernel_rfl
def knotE (a : GK) : Int := bif checkG a.g == 0 then (bif (nmM a).2 then 0 else 2) else checkG a.g
def knotM (a : GK) : Bool := bif knotE a == 0 then !(lineM (nmM a).1).2 else false
def C_Knot : Ctr := { α := GK, xs := xGK, L := λ _ => [], val := λ a => .tup [.bool (knotM a), .int (knotE a)], keep := λ _ => [], pre := λ a => [a.g.length < 1073741824 /\ a.k.length < 1073741824] }
def A_Knot : Ann := ann 24 [(n_Check, C_Check.spec dGs1), (n_named, C_named.spec dGK), (n_isKnot, C_isKnot.spec dGsK)]
def V_Knot (a : GK) : Prop := fnVC Try.prog A_Knot F_Knot (bodyOf F_Knot) (C_Knot.xs a) (heapOf []) (C_Knot.val a) [] [] []
theorem vc_Knot (a : GK) : (V_Knot a) = (((rng a.g.length λ (i : Nat) => gD a.g i).length = a.g.length /\ (∀ (i : Nat), i < (rng a.g.length λ (i : Nat) => gD a.g i).length -> (gD (rng a.g.length λ (i : Nat) => gD a.g
 i) i).st = (gD a.g i).st /\ (gD (rng a.g.length λ (i : Nat) => gD a.g i) i).lo = (gD a.g i).lo /\ (gD (rng a.g.length λ (i : Nat) => gD a.g i) i).hi = (gD a.g i).hi) /\ (rng a.g.length λ (i : Nat) => gD a.g i).length
 < 4611686018427387904 /\ True) /\ bif checkG (rng a.g.length λ (i : Nat) => gD a.g i) != 0 then knotM a = false /\ knotE a = checkG (rng a.g.length λ (i : Nat) => gD a.g i) else ((rng a.g.length λ (i : Nat) => gD a.g
 i).length = a.g.length /\ (∀ (i : Nat), i < (rng a.g.length λ (i : Nat) => gD a.g i).length -> (gD (rng a.g.length λ (i : Nat) => gD a.g i) i).st = (gD a.g i).st /\ (gD (rng a.g.length λ (i : Nat) => gD a.g i) i).lo =
 (gD a.g i).lo /\ (gD (rng a.g.length λ (i : Nat) => gD a.g i) i).hi = (gD a.g i).hi) /\ (rng a.k.length λ (i : Nat) => gD a.k i).length = a.k.length /\ (∀ (i : Nat), i < (rng a.k.length λ (i : Nat) => gD a.k i).length
 -> gD (rng a.k.length λ (i : Nat) => gD a.k i) i = gD a.k i) /\ (rng a.g.length λ (i : Nat) => gD a.g i).length < 1073741824 /\ (rng a.k.length λ (i : Nat) => gD a.k i).length < 1073741824) /\ bif !(nmM (GK.mk (rng
 a.g.length λ (i : Nat) => gD a.g i) (rng a.k.length λ (i : Nat) => gD a.k i))).snd then knotM a = false /\ knotE a = 2 else ((rng (nmM (GK.mk (rng a.g.length λ (i : Nat) => gD a.g i) (rng a.k.length λ (i : Nat) =>
 gD a.k i))).fst.length λ (i : Nat) => gD (nmM (GK.mk (rng a.g.length λ (i : Nat) => gD a.g i) (rng a.k.length λ (i : Nat) => gD a.k i))).fst i).length = (nmM (GK.mk (rng a.g.length λ (i : Nat) => gD a.g i) (rng
 a.k.length λ (i : Nat) => gD a.k i))).fst.length /\ (∀ (i : Nat), i < (rng (nmM (GK.mk (rng a.g.length λ (i : Nat) => gD a.g i) (rng a.k.length λ (i : Nat) => gD a.k i))).fst.length λ (i : Nat) => gD (nmM (GK.mk
 (rng a.g.length λ (i : Nat) => gD a.g i) (rng a.k.length λ (i : Nat) => gD a.k i))).fst i).length -> (gD (rng (nmM (GK.mk (rng a.g.length λ (i : Nat) => gD a.g i) (rng a.k.length λ (i : Nat) => gD a.k
 i))).fst.length λ (i : Nat) => gD (nmM (GK.mk (rng a.g.length λ (i : Nat) => gD a.g i) (rng a.k.length λ (i : Nat) => gD a.k i))).fst i) i).st = (gD (nmM (GK.mk (rng a.g.length λ (i : Nat) => gD a.g i) (rng
 a.k.length λ (i : Nat) => gD a.k i))).fst i).st /\ (gD (rng (nmM (GK.mk (rng a.g.length λ (i : Nat) => gD a.g i) (rng a.k.length λ (i : Nat) => gD a.k i))).fst.length λ (i : Nat) => gD (nmM (GK.mk (rng a.g.length
 λ (i : Nat) => gD a.g i) (rng a.k.length λ (i : Nat) => gD a.k i))).fst i) i).lo = (gD (nmM (GK.mk (rng a.g.length λ (i : Nat) => gD a.g i) (rng a.k.length λ (i : Nat) => gD a.k i))).fst i).lo /\ (gD (rng (nmM
 (GK.mk (rng a.g.length λ (i : Nat) => gD a.g i) (rng a.k.length λ (i : Nat) => gD a.k i))).fst.length λ (i : Nat) => gD (nmM (GK.mk (rng a.g.length λ (i : Nat) => gD a.g i) (rng a.k.length λ (i : Nat) => gD a.k
 i))).fst i) i).hi = (gD (nmM (GK.mk (rng a.g.length λ (i : Nat) => gD a.g i) (rng a.k.length λ (i : Nat) => gD a.k i))).fst i).hi) /\ (rng (nmM (GK.mk (rng a.g.length λ (i : Nat) => gD a.g i) (rng a.k.length λ (i
 : Nat) => gD a.k i))).fst.length λ (i : Nat) => gD (nmM (GK.mk (rng a.g.length λ (i : Nat) => gD a.g i) (rng a.k.length λ (i : Nat) => gD a.k i))).fst i).length < 1073741824 /\ ∀ (g : Gau), List.Mem g (rng (nmM
 (GK.mk (rng a.g.length λ (i : Nat) => gD a.g i) (rng a.k.length λ (i : Nat) => gD a.k i))).fst.length λ (i : Nat) => gD (nmM (GK.mk (rng a.g.length λ (i : Nat) => gD a.g i) (rng a.k.length λ (i : Nat) => gD a.k
 i))).fst i) -> 0 <= g.st /\ g.st <= 2000 /\ 0 <= g.lo /\ g.lo <= g.hi /\ g.hi <= 200000) /\ knotM a = !(lineM (rng (nmM (GK.mk (rng a.g.length λ (i : Nat) => gD a.g i) (rng a.k.length λ (i : Nat) => gD a.k i))).fst.length fun
 (i : Nat) => gD (nmM (GK.mk (rng a.g.length λ (i : Nat) => gD a.g i) (rng a.k.length λ (i : Nat) => gD a.k i))).fst i)).snd /\ knotE a = 0) := by kernel_rfl
theorem ok_isKnot : SpecOk Try.prog n_isKnot (C_isKnot.spec dGsK) := okC C_isKnot (λ _ => ann 12 [(n_line, C_line.spec dGsK)]) [] [] fn_isKnot (λ _ => by kernel_rfl) (λ _ => gok_cons ok_line gok_nil) (λ (s : List Gau) h => by
 show V_isKnot s; rw [vc_isKnot]; simp only [condP, eq_self, implies_true, and_self, true_and, and_true, true_implies, forall_const, decide_eq_true_eq, decide_eq_false_iff_not, Int.toNat_natCast, dSpan_eSpan, dInt_eInt, dGau_e, dPt_e, dLn_e, dRt_e, Nat.zero_add, Int.zero_sub, Nat.le_eq, Nat.succ_eq_add_one, Nat.add_one_le_iff, Bool.not_eq_true', Bool.not_eq_false', rng_length, dSpan_mk, rng_getD]; exact h) (λ _ => noI rfl rfl) _
theorem hGG (xs : List AVal) (a : GG) (h : dGG xs = some a) : xs = xGG a := by
 unfold dGG at h; split at h <;> cases h; rfl
theorem ok_nm2 : SpecOk Try.prog n_named2 s_nm2 := pD_ok xGG hGG λ a _ => fnt (A := ann 10 [(n_cmpI, s_cmpI)]) (ren := []) (fz := []) fn_named2 (by kernel_rfl) (gok_cons ok_cmpI gok_nil) (by
 show V_nm2 a; rw [vc_nm2])
theorem ok_sorted : SpecOk Try.prog n_sorted (C_sorted.spec d_sorted) := okC C_sorted A_sorted [] [] fn_sorted (λ _ => by kernel_rfl) (λ _ => gok_cons ok_nm2 gok_nil) (λ (s : List Gau) h => by
 show V_sorted s; rw [vc_sorted]; simp only [condP, eq_self, implies_true, and_self, true_and, and_true, true_implies, forall_const, decide_eq_true_eq, decide_eq_false_iff_not, Int.toNat_natCast, dSpan_eSpan, dInt_eInt, dGau_e, dPt_e, dLn_e, dRt_e, Nat.zero_add, Int.zero_sub, Nat.le_eq, Nat.succ_eq_add_one, Nat.add_one_le_iff, Bool.not_eq_true', Bool.not_eq_false', rng_length, dSpan_mk, rng_getD]
 obtain ⟨h1, h2⟩ : 0 < s.length /\ s.length < 1073741824 := h
 refine ⟨⟨s.length - 1, by rw [w64 (by omega) (by omega)]; omega, by omega, rfl⟩, λ k ⟨hk1, hk2⟩ => ⟨λ hlt => ?_, λ hge => ?_⟩⟩
 ·obtain ⟨k, rfl⟩ : ∃ n, k = n + 1 := ⟨k - 1, by omega⟩
  have e : IntKind.i64.wrap (((k + 1 : Nat) : Int) - 1) = (k : Nat) := by rw [w64 (by omega) (by omega)]; omega
  rw [e, Int.toNat_natCast]
  unfold srtK at hk2
  refine ⟨⟨⟨by omega, by omega⟩, by omega, by omega⟩, λ hc => ?_, λ hc => ⟨k, rfl, ⟨by omega, ?_⟩, by omega⟩⟩
  ·rw [hk2, decide_eq_true hc]; rfl
  ·rw [hk2, decide_eq_false hc]; rfl
 ·rw [hk2, show k = 0 by omega]; rfl) (λ _ => noI rfl rfl) _
theorem nmOk_ok {a : GK} (hg : a.g.length < 1073741824) (h : nmOk a = true) : 2 <= a.k.length /\ a.k.length <= 3 /\ ∀ x ∈ a.k, 0 <= x /\ x < a.g.length := by
 unfold nmOk at h
 cases hc : inM a.k.length 2 3 with
 | false => rw [hc] at h; cases h
 | true =>
  rw [hc] at h
  have h : (a.k.all λ x => inM x 0 (wr (a.g.length - 1))) = true := h
  unfold inM at hc
  simp only [Bool.and_eq_true, decide_eq_true_eq] at hc
  refine ⟨by omega, by omega, λ x hx => ?_⟩
  have := List.all_eq_true.1 h x hx
  unfold inM wr at this
  rw [w64 (by omega) (by omega)] at this
  simp only [Bool.and_eq_true, decide_eq_true_eq] at this
  omega
theorem p_named (a : GK) (h1 : a.g.length < 1073741824) (h2 : a.k.length < 1073741824) : V_named a := by
 rw [vc_named]; delta z_named_0 z_named_1 z_named_2 z_named_3 z_named_4 z_named_5 z_named_6 z_named_7 z_named_8 z_named_9 z_named_10 z_named_11 z_named_12 z_named_13 z_named_14 z_named_15 z_named_16 z_named_17 z_named_18 z_named_19 z_named_20 z_named_21 z_named_22 z_named_23 z_named_24 z_named_25 z_named_26 z_named_27 z_named_28 z_named_29 z_named_30 z_named_31 z_named_32 z_named_33 z_named_34 z_named_35 z_named_36 z_named_37 z_named_38 z_named_39; simp only [condP, eq_self, implies_true, and_self, true_and, and_true, true_implies, forall_const, decide_eq_true_eq, decide_eq_false_iff_not, Int.toNat_natCast, dSpan_eSpan, dInt_eInt, dGau_e, dPt_e, dLn_e, dRt_e, Nat.zero_add, Int.zero_sub, Nat.le_eq, Nat.succ_eq_add_one, Nat.add_one_le_iff, Bool.not_eq_true', Bool.not_eq_false', rng_length, dSpan_mk, rng_getD]
 have hk : ∀ {i : Nat}, nmOk a = true -> i < a.k.length -> 0 <= gD a.k i /\ gD a.k i < a.g.length := λ h hi => (nmOk_ok h1 h).2.2 _ (gD_mem hi)
 have hl : ∀ i, ((a.k.take i).map λ i => gD a.g i.toNat).length <= a.k.length := λ i => by simp; omega
 have hnl : (nmL a).length = a.k.length := by unfold nmL; simp
 refine ⟨λ _ => by omega, λ hb => ?_, λ hb => ⟨⟨⟨default, ?_⟩, λ hn => ⟨λ hlt => ⟨⟨by omega, by omega⟩, ⟨hk hn (by omega), by omega, by omega, by omega, by omega, by omega⟩, ⟨1, [gD a.g (gD a.k 0).toNat]⟩, ⟨rfl, rfl, rfl, λ i hi => ?_⟩, ⟨hn, by show 0 < 1; omega, by show 1 <= _; omega, ?_⟩, by show a.k.length - 1 < _; omega⟩, λ hge => ?_⟩, λ x ⟨hn, x1, x2, x3⟩ => ⟨λ hlt => ⟨⟨by omega, by omega⟩, ⟨hk hn (by omega), by omega, λ h => (by cases h), ?_, ?_⟩, ⟨x.i + 1, x.l ++ [gD a.g (gD a.k x.i).toNat]⟩, ⟨by simp, (wsucc (by omega)).symm, by simp, snocG _ _⟩, ⟨hn, by show 0 < x.i + 1; omega, by show x.i + 1 <= _; omega, ?_⟩, by show a.k.length - (x.i + 1) < _; omega⟩, λ hge => ⟨default, ?_, hn⟩⟩⟩, λ hn => ?_⟩⟩
 ·have e : nmOk a = false := by
   unfold nmOk
   cases hc : inM a.k.length 2 3 with
   | false => rfl
   | true => rw [hc] at hb; simpa using hb
  have : nmM a = ([], false) := by unfold nmM; rw [e]; rfl
  rw [this]; exact ⟨rfl, rfl, rfl⟩
 ·unfold nmOk
  cases hc : inM a.k.length 2 3 with
  | false => rw [hc] at hb; cases hb
  | true => rw [hc] at hb; simpa using hb
 ·have hi : i < 1 := hi
  rw [show i = 0 by omega]; exact ⟨rfl, rfl, rfl⟩
 ·show [gD a.g (gD a.k 0).toNat] = (a.k.take 1).map _
  rw [take_snoc (by omega : 0 < a.k.length)]; rfl
 ·have := nmOk_ok h1 hn; omega
 ·have := hl x.i; rw [<- x3] at this; omega
 ·have := hl x.i; rw [<- x3] at this; omega
 ·show x.l ++ _ = (a.k.take (x.i + 1)).map _
  rw [take_snoc (by omega : x.i < a.k.length), List.map_append, x3]; rfl
 ·have : x.l = nmL a := by rw [x3, List.take_of_length_le (by omega)]; rfl
  rw [this]; exact ⟨rfl, Nat.le_refl _, λ _ _ => ⟨rfl, rfl, rfl⟩⟩
 ·have := nmOk_ok h1 hn
  have e : nmM a = (nmL a, nmB (nmL a)) := by unfold nmM; rw [hn]; rfl
  rw [e, w64 (by omega) (by omega)]
  refine ⟨⟨by omega, by omega⟩, ⟨λ _ => ⟨by omega, by omega⟩, λ _ => ⟨by omega, by omega⟩⟩, rfl, λ _ _ => ⟨rfl, rfl, rfl⟩, ?_⟩
  rw [show ((nmL a).length - 1 : Int).toNat = (nmL a).length - 1 by omega]; rfl
theorem ok_named : SpecOk Try.prog n_named (C_named.spec dGK) := okC C_named A_named [] [] fn_named (λ _ => by kernel_rfl) (λ _ => gok_cons ok_in (gok_cons ok4In (gok_cons ok_sorted gok_nil))) (λ (a : GK) h => p_named a h.1 h.2) (λ _ => noI rfl rfl) _
theorem nm_okG {a : GK} (hg : ∀ g ∈ a.g, okG g) (h1 : a.g.length < 1073741824) : (nmM a).1.length < 1073741824 /\ ∀ g ∈ (nmM a).1, okG g := by
 unfold nmM
 cases hc : nmOk a with
 | false => exact ⟨by show 0 < _; omega, λ g hg => by cases hg⟩
 | true =>
  have := nmOk_ok h1 hc
  refine ⟨by show (nmL a).length < _; unfold nmL; rw [List.length_map]; omega, λ g hgm => ?_⟩
  have hgm : g ∈ nmL a := hgm
  unfold nmL at hgm
  obtain ⟨x, hx, rfl⟩ := List.mem_map.1 hgm
  have := this.2.2 x hx
  exact hg _ (gD_mem (by omega))
theorem check_ok {g : List Gau} (h : checkG g = 0) : (1 <= g.length /\ g.length <= 24) /\ ∀ x ∈ g, okG x := by
 unfold checkG at h
 cases h2 : inM g.length 1 24 with
 | false => rw [h2] at h; cases h
 | true =>
  rw [h2] at h
  cases h3 : g.all riG with
  | false => rw [h3] at h; cases h
  | true =>
   unfold inM at h2
   simp only [Bool.and_eq_true, decide_eq_true_eq] at h2
   refine ⟨by omega, λ x hx => ?_⟩
   have := List.all_eq_true.1 h3 x hx
   unfold riG inM at this
   simp only [Bool.and_eq_true, decide_eq_true_eq] at this
   unfold okG; omega
theorem ok_Knot : SpecOk Try.prog n_Knot (C_Knot.spec dGK) := okC C_Knot (λ _ => A_Knot) [] [] fn_Knot (λ _ => by kernel_rfl) (λ _ => gok_cons ok_Check (gok_cons ok_named (gok_cons ok_isKnot gok_nil))) (λ (a : GK) h => by
 show V_Knot a; rw [vc_Knot]; simp only [condP, eq_self, implies_true, and_self, true_and, and_true, true_implies, forall_const, decide_eq_true_eq, decide_eq_false_iff_not, Int.toNat_natCast, dSpan_eSpan, dInt_eInt, dGau_e, dPt_e, dLn_e, dRt_e, Nat.zero_add, Int.zero_sub, Nat.le_eq, Nat.succ_eq_add_one, Nat.add_one_le_iff, Bool.not_eq_true', Bool.not_eq_false', rng_length, dSpan_mk, rng_getD]
 obtain ⟨h1, h2⟩ : a.g.length < 1073741824 /\ a.k.length < 1073741824 := h
 refine ⟨by omega, λ hc => ?_, λ hc => ⟨⟨h1, h2⟩, λ hn => ?_, λ hn => ?_⟩⟩
 ·have e0 : (checkG a.g == 0) = false := by simpa using hc
  have e : knotE a = checkG a.g := by unfold knotE; rw [e0]; rfl
  have e2 : knotM a = false := by unfold knotM; rw [e, e0]; rfl
  exact ⟨e2, e⟩
 all_goals
  have c0 : checkG a.g = 0 := by simpa using hc
  have e0 : (checkG a.g == 0) = true := by simpa using hc
 ·have e : knotE a = 2 := by unfold knotE; rw [e0, show (nmM a).2 = false from hn]; rfl
  have e2 : knotM a = false := by unfold knotM; rw [e]; rfl
  exact ⟨e2, e⟩
 ·have e : knotE a = 0 := by unfold knotE; rw [e0, show (nmM a).2 = true from hn]; rfl
  have e2 : knotM a = !(lineM (nmM a).1).2 := by unfold knotM; rw [e]; rfl
  exact ⟨nm_okG (check_ok c0).2 h1, e2, e⟩) (λ _ => noI rfl rfl) _
end Go.Bal
