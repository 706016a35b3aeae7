/- Package rating: knots. -/
import Derived.Test.YtoihhodbkimedaaRatP
set_option linter.unusedVariables false
set_option linter.unusedSimpArgs false
namespace Go.Bal
open Go Go.Sym Go.Proofs
def C_isKnot : Ctr := { C_line with val := λ (s : List Gau) => .bool (!(BH s).2) }
def BKZ (s : List Gau) : Prop := AY Try.prog (ann 12 [(AIR, C_line.spec dGsK)]) AZR (AF AZR) (C_isKnot.xs s) (AC []) (C_isKnot.val s) [] [] []
theorem BTW (s : List Gau) : (BKZ s) = (((AD s.length λ (i : Nat) => gD s i).length = s.length /\ (∀ (i : Nat), i < (AD s.length λ (i : Nat) => gD s i).length -> (gD (AD s.length λ (i : Nat) => gD s i)
 i).st = (gD s i).st /\ (gD (AD s.length λ (i : Nat) => gD s i) i).lo = (gD s i).lo /\ (gD (AD s.length λ (i : Nat) => gD s i) i).hi = (gD s i).hi) /\ (AD s.length λ (i : Nat) => gD s i).length < 1073741824 /\ ∀ (g :
 Gau), List.Mem g (AD s.length λ (i : Nat) => gD s i) -> 0 <= g.st /\ g.st <= 2000 /\ 0 <= g.lo /\ g.lo <= g.hi /\ g.hi <= 200000) /\ (!(BH s).snd) = !(BH (AD s.length λ (i : Nat) => gD s i)).snd) := by kernel_rfl
structure GG where
 a : Gau
 b : Gau
def dGG : List AVal -> Option GG
 | [.d (.agg [.v (.int .i64 a), .v (.int .i64 b), .v (.int .i64 c)]), .d (.agg [.v (.int .i64 p), .v (.int .i64 q), .v (.int .i64 r)])] => some ⟨⟨a, b, c⟩, ⟨p, q, r⟩⟩
 | _ => none
def xGG (a : GG) : List AVal := [.d (eGau a.a), .d (eGau a.b)]
def CJF := pD dGG λ a => .int (HJ a.a.st a.b.st)
def CJM (a : GG) : Prop := AY Try.prog (ann 10 [(dB, ABA)]) ASZ (AF ASZ) (xGG a) (AC []) (.int (HJ a.a.st a.b.st)) [] [] []
theorem CLV (a : GG) : (CJM a) = (HJ a.a.st a.b.st = HJ a.a.st a.b.st) := by kernel_rfl
def srtK (s : List Gau) : Nat -> Bool
 | 0 => true
 | k + 1 => bif decide (HJ (gD s (k + 1)).st (gD s k).st < 0) then false else srtK s k
def srtM (s : List Gau) : Bool := srtK s (s.length - 1)
def C_sorted : Ctr := { α := List Gau, xs := λ s => [.d (BO s), .fn (.func ZC) [] []], L := λ _ => [], val := λ s => .bool (srtM s), keep := λ _ => [], pre := λ s => [0 < s.length /\ s.length < 1073741824] }
def BKY : List AVal -> Heap -> Option (List Gau × List (Nat × Nat) × List Nat)
 | [y, .fn (.func g) [] []], H => if g = ZC then match AIZ y H with
  | some (l, f) => some (l, [], f)
  | none => none else none
 | _, _ => none
def so2 (s : List Gau) : Shape := { α := Nat, dflt := 0, T := λ k => ⟨[(0, .d (BO s)), (1, .fn (.func ZC) [] []), (5, .int k)], []⟩, inv := λ k => k + 1 <= s.length /\ srtM s = srtK s k, meas := λ k => k }
def BKM (s : List Gau) : Ann := { ann 25 [(ZC, CJF)] with loops := λ id => if id = 2 then some [so2 s] else none }
def BKG (s : List Gau) : Prop := AY Try.prog (BKM s) AOL (AF AOL) (C_sorted.xs s) (AC []) (C_sorted.val s) [] [] []
theorem BVC (s : List Gau) : (BKG s) = ((∃ (a : Nat), (s.length = s.length /\ (∀ (i : Nat), i < s.length -> (gD s i).st = (gD s i).st /\ (gD s i).lo = (gD s i).lo /\ (gD s i).hi = (gD s i).hi) /\ (↑a : Int) =
 IntKind.i64.wrap ((↑s.length : Int) - 1)) /\ a + 1 <= s.length /\ srtM s = srtK s a) /\ ∀ (a : Nat), a + 1 <= s.length /\ srtM s = srtK s a -> bif decide ((↑a : Int) > 0) then ((0 <= (↑a : Int) /\ (↑a : Int) < (↑s.length : Int))
 /\ 0 <= IntKind.i64.wrap ((↑a : Int) - 1) /\ IntKind.i64.wrap ((↑a : Int) - 1) < (↑s.length : Int)) /\ bif decide (HJ (gD s a).st (gD s (IntKind.i64.wrap ((↑a : Int) - 1)).toNat).st < 0) then srtM s = false else ∃ (a_2 :
 Nat), (s.length = s.length /\ (∀ (i : Nat), i < s.length -> (gD s i).st = (gD s i).st /\ (gD s i).lo = (gD s i).lo /\ (gD s i).hi = (gD s i).hi) /\ (↑a_2 : Int) = IntKind.i64.wrap ((↑a : Int) - 1)) /\ (a_2 + 1 <= s.length /\
 srtM s = srtK s a_2) /\ a_2 < a else srtM s = true) := by kernel_rfl
structure GK where
 g : List Gau
 k : List Int
def dGK : List AVal -> Heap -> Option (GK × List (Nat × Nat) × List Nat)
 | [x, y], H => match AIZ x H, AEV y H with
  | some (l, f), some (m, e) => some (⟨l, m⟩, [], f ++ e)
  | _, _ => none
 | _, _ => none
def xGK (a : GK) : List AVal := [.d (BO a.g), .d (BL a.k)]
def Ns (a : GK) : List Gau := a.k.map λ i => gD a.g i.toNat
def Jo (a : GK) : Bool := bif FT a.k.length 2 3 then a.k.all λ x => FT x 0 (wr (a.g.length - 1)) else false
def nmB (s : List Gau) : Bool := bif srtM s then decide ((gD s 0).st < (gD s (s.length - 1)).st) else false
def IT (a : GK) : List Gau × Bool := bif Jo a then (Ns a, nmB (Ns a)) else ([], false)
def C_named : Ctr := { α := GK, xs := xGK, L := λ _ => [], val := λ a => .tup [.d (BO (IT a).1), .bool (IT a).2], keep := λ _ => [], pre := λ a => [a.g.length < 1073741824 /\ a.k.length < 1073741824] }
def nm5n (a : GK) : Shape := { α := One, dflt := default, T := λ _ => ⟨[(2, .bptr 200 0), (6, .d PD), (20, .d (BL a.k)), (21, .int a.k.length), (22, .int 0)], [(200, .live (.box [.d (BO a.g)]))]⟩, inv := λ _ => Jo a = true, meas := λ _ => a.k.length + 1, first := [(200, 1000)] }
def nm5o (a : GK) : Shape := { α := GsK, dflt := default, T := λ x => ⟨[(2, .bptr 200 0), (6, .own 201 3 0 x.l.length), (20, .d (BL a.k)), (21, .int a.k.length), (22, .int x.i)], [(200, .live (.box [.d (BO a.g)])), (201, .live (rowG x.l))]⟩, inv := λ x => Jo a = true /\ 1 <= x.i /\ x.i <= a.k.length /\ x.l = (a.k.take x.i).map λ i => gD a.g i.toNat, meas := λ x => a.k.length - x.i, again := [(201, 8096)] }
def nm9 (a : GK) : Shape := { α := One, dflt := default, T := λ _ => ⟨[(6, .d (BO (Ns a)))], []⟩, inv := λ _ => Jo a = true, meas := λ _ => 0, ffz := [201] }
def BSV (a : GK) : Ann := { ann 52 [(J5, s_in), (n_eI, C4In.spec d4In), (BAC, C_sorted.spec BKY)] with mt := λ id => id == 7, loops := λ id => if id = 5 then some [nm5n a, nm5o a] else none, cut := λ id => if id = 9 then some [nm9 a] else none }
def BQC (a : GK) : Prop := AY Try.prog (BSV a) BDC (AF BDC) (C_named.xs a) (AC []) (C_named.val a) [] [] []
abbrev ACD (a : GK) : Bool := !FT (↑a.k.length : Int) (2 : Int) (3 : Int)
abbrev Sv (a : GK) : List Int := AD a.k.length λ (i : Nat) => gD a.k i
abbrev Qq (a : GK) : Nat := (Sv a).length
abbrev E9 (a : GK) : List Gau := AD a.g.length λ (i : Nat) => gD a.g i
abbrev XJ (a : GK) : Nat := (E9 a).length
abbrev Qz (a : GK) (i : Nat) : Gau := gD (E9 a) i
abbrev AAF (a : GK) (i : Nat) : Int := (Qz a i).st
abbrev H7 (a : GK) (i : Nat) : Int := (Qz a i).lo
abbrev E1 (a : GK) (i : Nat) : Int := (Qz a i).hi
abbrev ADI (a : GK) : Prop := (IT a).fst.length = (0 : Nat)
abbrev Fs : Prop := (0 : Nat) = (0 : Nat)
abbrev Eo (a : GK) : Prop := a.k.length = a.k.length
abbrev Hd (a : GK) : Prop := ∀ (i : Nat), i < a.k.length -> gD a.k i = gD a.k i
abbrev Az (a : GK) : Prop := (↑a.k.length : Int) = (↑a.k.length : Int)
abbrev Ef (a : GK) : Prop := a.g.length = a.g.length
abbrev En (a : GK) : Prop := ∀ (i : Nat), i < a.g.length -> (gD a.g i).st = (gD a.g i).st /\ (gD a.g i).lo = (gD a.g i).lo /\ (gD a.g i).hi = (gD a.g i).hi
abbrev lN (a : GK) : Prop := (0 : Int) < (↑a.k.length : Int)
abbrev Vw : Prop := (0 : Int) <= (0 : Int)
abbrev Xa (a : GK) : Int := gD a.k (0 : Nat)
abbrev Hj : Prop := (0 : Nat) < (1 : Nat)
abbrev bP : Prop := (3 : Nat) = (3 : Nat)
abbrev Yl : Prop := (1 : Nat) <= (1 : Nat) /\ (Hj -> bP)
abbrev gE (a : GsK) : Prop := a.l.length = (1 : Nat)
abbrev Bn (a : GK) : Gau := gD a.g (gD a.k (Int.toNat (0 : Int))).toNat
abbrev Er (a : GK) (a1 : GsK) : Prop := Jo a = true /\ (1 : Nat) <= a1.i /\ a1.i <= a.k.length /\ a1.l = List.map (λ (i : Int) => gD a.g i.toNat) (List.take a1.i a.k)
abbrev Ew (a : GK) (a1 : GsK) : Nat := a.k.length - a1.i
abbrev iA (a : GK) : Prop := (Ns a).length = (0 : Nat)
abbrev Zu (a : GsK) (a1 : GK) : Prop := (↑a.i : Int) < (↑a1.k.length : Int)
abbrev Ea (a : GsK) : Nat := a.l.length + (1 : Nat)
abbrev aP (a : GsK) (a1 : GsK) : Prop := a.l.length = Ea a1
abbrev Gz (i : Nat) (a : GsK) : Bool := decide (i < a.l.length)
abbrev Bp (a : GK) (a1 : GsK) : Gau := gD a.g (gD a.k a1.i).toNat
abbrev Gm (a : GsK) (j : Nat) : Gau := gD a.l ((0 : Nat) + j)
abbrev Gy (a : GK) : List Gau := AD (Ns a).length λ (i : Nat) => gD (Ns a) i
abbrev SK (a : GK) : Nat := (Gy a).length
abbrev Bu (a : GK) (i : Nat) : Gau := gD (Gy a) i
abbrev eG (a : GK) : Bool := srtM (Gy a)
abbrev fZ (a : GK) : Prop := eG a = true
abbrev Cn (a : GK) : Int := IntKind.i64.wrap ((↑(Ns a).length : Int) - (1 : Int))
abbrev Ep (a : GK) (i : Nat) : Gau := gD (IT a).fst i
theorem BZC (a : GK) : (BQC a) = (((!ACD a) = true -> Qq a = a.k.length /\ (∀ (i : Nat), i < Qq a -> gD (Sv a) i = gD a.k i) /\ XJ a = a.g.length /\ (∀ (i : Nat), i < XJ a ->
 AAF a i = (gD a.g i).st /\ H7 a i = (gD a.g i).lo /\ E1 a i = (gD a.g i).hi) /\ a.g.length = XJ a /\ (∀ (i : Nat), i < a.g.length -> (gD a.g i).st = AAF a i /\ (gD a.g i).lo = H7 a i /\
 (gD a.g i).hi = E1 a i) /\ Qq a < (4611686018427387904 : Nat) /\ True) /\ bif bif ACD a then true else !(Sv a).all λ (x : Int) => FT x (0 : Int) (wr ((↑(XJ a) : Int) - (1 : Int))) then
 ADI a /\ ADI a /\ (IT a).snd = false else ((∃ (a_1 : One), (Fs /\ (∀ (i : Nat), i < (0 : Nat) -> false = false) /\ Eo a /\ Hd a /\ Az a /\ Int.ofNat (0 : Nat) = Int.ofNat (0 : Nat) /\
 Ef a /\ En a) /\ Jo a = true) /\ (∀ (a_1 : One), Jo a = true -> bif decide (lN a) then (Vw /\ lN a) /\ (((0 : Int) <= Xa a /\ Xa a < (↑a.g.length : Int)) /\ (True /\ ((0
 : Nat) < (0 : Nat) -> (0 : Nat) = (3 : Nat))) /\ Yl /\ (true = true -> Hj) /\ (1 : Nat) <= (9223372036854775807 : Nat) /\ (24 : Nat) <= (140737488355328 : Nat)) /\ ∃ (a_3 : GsK), (Fs /\ gE a_3 /\
 Eo a /\ Hd a /\ Az a /\ (↑a_3.i : Int) = IntKind.i64.wrap ((0 : Int) + (1 : Int)) /\ Ef a /\ En a /\ gE a_3 /\ ∀ (i : Nat), i < a_3.l.length -> (gD a_3.l i).st = (Bn a).st
 /\ (gD a_3.l i).lo = (Bn a).lo /\ (gD a_3.l i).hi = (Bn a).hi) /\ Er a a_3 /\ Ew a a_3 < a.k.length + (1 : Nat) else ∃ (a_3 : One), (iA a /\ iA a) /\ Jo a = true) /\ ∀ (a_1 :
 GsK), Er a a_1 -> bif decide (Zu a_1 a) then ((0 : Int) <= (↑a_1.i : Int) /\ Zu a_1 a) /\ (((0 : Int) <= gD a.k a_1.i /\ gD a.k a_1.i < (↑a.g.length : Int)) /\ (a_1.l.length = a_1.l.length /\ ((0 : Nat) <
 a_1.l.length -> bP)) /\ Yl /\ (false = true -> Hj) /\ Ea a_1 <= (9223372036854775807 : Nat) /\ Ea a_1 * (24 : Nat) <= (140737488355328 : Nat)) /\ ∃ (a_3 : GsK), (Fs /\ aP a_3
 a_1 /\ Eo a /\ Hd a /\ Az a /\ (↑a_3.i : Int) = IntKind.i64.wrap ((↑a_1.i : Int) + (1 : Int)) /\ Ef a /\ En a /\ aP a_3 a_1 /\ ∀ (i : Nat), i < a_3.l.length -> ((gD a_3.l i).st =
 bif Gz i a_1 then (gD a_1.l i).st else (Bp a a_1).st) /\ ((gD a_3.l i).lo = bif Gz i a_1 then (gD a_1.l i).lo else (Bp a a_1).lo) /\ (gD a_3.l i).hi = bif Gz i a_1 then (gD a_1.l
 i).hi else (Bp a a_1).hi) /\ Er a a_3 /\ Ew a a_3 < Ew a a_1 else ∃ (a_3 : One), ((Ns a).length = a_1.l.length /\ (0 : Nat) + a_1.l.length <= a_1.l.length /\ ∀ (j : Nat), j < (Ns a).length ->
 (gD (Ns a) j).st = (Gm a_1 j).st /\ (gD (Ns a) j).lo = (Gm a_1 j).lo /\ (gD (Ns a) j).hi = (Gm a_1 j).hi) /\ Jo a = true) /\ ∀ (a_1 : One), Jo a = true -> (SK a = (Ns a).length /\ (∀ (i
 : Nat), i < SK a -> (Bu a i).st = (gD (Ns a) i).st /\ (Bu a i).lo = (gD (Ns a) i).lo /\ (Bu a i).hi = (gD (Ns a) i).hi) /\ (0 : Nat) < SK a /\ SK a < (1073741824 : Nat)) /\
 ((fZ a -> Vw /\ (0 : Int) < (↑(Ns a).length : Int)) /\ (fZ a -> (0 : Int) <= Cn a /\ Cn a < (↑(Ns a).length : Int))) /\ (IT a).fst.length = (Ns a).length /\ (∀ (i : Nat), i < (IT
 a).fst.length -> (Ep a i).st = (gD (Ns a) i).st /\ (Ep a i).lo = (gD (Ns a) i).lo /\ (Ep a i).hi = (gD (Ns a) i).hi) /\ (IT a).snd = bif eG a then decide ((gD (Ns a) (Int.toNat (0 :
 Int))).st < (gD (Ns a) (Cn a).toNat).st) else false) := by kernel_rfl
def Ik (a : GK) : Int := bif AT a.g == 0 then (bif (IT a).2 then 0 else 2) else AT a.g
def Vj (a : GK) : Bool := bif Ik a == 0 then !(BH (IT a).1).2 else false
def C_Knot : Ctr := { α := GK, xs := xGK, L := λ _ => [], val := λ a => .tup [.bool (Vj a), .int (Ik a)], keep := λ _ => [], pre := λ a => [a.g.length < 1073741824 /\ a.k.length < 1073741824] }
def CBI : Ann := ann 24 [(tW, C_Check.spec UV), (AFR, C_named.spec dGK), (Hv, C_isKnot.spec dGsK)]
def CBF (a : GK) : Prop := AY Try.prog CBI BOG (AF BOG) (C_Knot.xs a) (AC []) (C_Knot.val a) [] [] []
theorem CGY (a : GK) : (CBF a) = (((AD a.g.length λ (i : Nat) => gD a.g i).length = a.g.length /\ (∀ (i : Nat), i < (AD a.g.length λ (i : Nat) => gD a.g i).length -> (gD (AD a.g.length λ (i : Nat) => gD a.g
 i) i).st = (gD a.g i).st /\ (gD (AD a.g.length λ (i : Nat) => gD a.g i) i).lo = (gD a.g i).lo /\ (gD (AD a.g.length λ (i : Nat) => gD a.g i) i).hi = (gD a.g i).hi) /\ (AD a.g.length λ (i : Nat) => gD a.g i).length
 < 4611686018427387904 /\ True) /\ bif AT (AD a.g.length λ (i : Nat) => gD a.g i) != 0 then Vj a = false /\ Ik a = AT (AD a.g.length λ (i : Nat) => gD a.g i) else ((AD a.g.length λ (i : Nat) => gD a.g
 i).length = a.g.length /\ (∀ (i : Nat), i < (AD a.g.length λ (i : Nat) => gD a.g i).length -> (gD (AD a.g.length λ (i : Nat) => gD a.g i) i).st = (gD a.g i).st /\ (gD (AD a.g.length λ (i : Nat) => gD a.g i) i).lo =
 (gD a.g i).lo /\ (gD (AD a.g.length λ (i : Nat) => gD a.g i) i).hi = (gD a.g i).hi) /\ (AD a.k.length λ (i : Nat) => gD a.k i).length = a.k.length /\ (∀ (i : Nat), i < (AD a.k.length λ (i : Nat) => gD a.k i).length
 -> gD (AD a.k.length λ (i : Nat) => gD a.k i) i = gD a.k i) /\ (AD a.g.length λ (i : Nat) => gD a.g i).length < 1073741824 /\ (AD a.k.length λ (i : Nat) => gD a.k i).length < 1073741824) /\ bif !(IT (GK.mk (AD
 a.g.length λ (i : Nat) => gD a.g i) (AD a.k.length λ (i : Nat) => gD a.k i))).snd then Vj a = false /\ Ik a = 2 else ((AD (IT (GK.mk (AD a.g.length λ (i : Nat) => gD a.g i) (AD a.k.length λ (i : Nat) =>
 gD a.k i))).fst.length λ (i : Nat) => gD (IT (GK.mk (AD a.g.length λ (i : Nat) => gD a.g i) (AD a.k.length λ (i : Nat) => gD a.k i))).fst i).length = (IT (GK.mk (AD a.g.length λ (i : Nat) => gD a.g i) (AD
 a.k.length λ (i : Nat) => gD a.k i))).fst.length /\ (∀ (i : Nat), i < (AD (IT (GK.mk (AD a.g.length λ (i : Nat) => gD a.g i) (AD a.k.length λ (i : Nat) => gD a.k i))).fst.length λ (i : Nat) => gD (IT (GK.mk
 (AD a.g.length λ (i : Nat) => gD a.g i) (AD a.k.length λ (i : Nat) => gD a.k i))).fst i).length -> (gD (AD (IT (GK.mk (AD a.g.length λ (i : Nat) => gD a.g i) (AD a.k.length λ (i : Nat) => gD a.k
 i))).fst.length λ (i : Nat) => gD (IT (GK.mk (AD a.g.length λ (i : Nat) => gD a.g i) (AD a.k.length λ (i : Nat) => gD a.k i))).fst i) i).st = (gD (IT (GK.mk (AD a.g.length λ (i : Nat) => gD a.g i) (AD
 a.k.length λ (i : Nat) => gD a.k i))).fst i).st /\ (gD (AD (IT (GK.mk (AD a.g.length λ (i : Nat) => gD a.g i) (AD a.k.length λ (i : Nat) => gD a.k i))).fst.length λ (i : Nat) => gD (IT (GK.mk (AD a.g.length
 λ (i : Nat) => gD a.g i) (AD a.k.length λ (i : Nat) => gD a.k i))).fst i) i).lo = (gD (IT (GK.mk (AD a.g.length λ (i : Nat) => gD a.g i) (AD a.k.length λ (i : Nat) => gD a.k i))).fst i).lo /\ (gD (AD (IT
 (GK.mk (AD a.g.length λ (i : Nat) => gD a.g i) (AD a.k.length λ (i : Nat) => gD a.k i))).fst.length λ (i : Nat) => gD (IT (GK.mk (AD a.g.length λ (i : Nat) => gD a.g i) (AD a.k.length λ (i : Nat) => gD a.k
 i))).fst i) i).hi = (gD (IT (GK.mk (AD a.g.length λ (i : Nat) => gD a.g i) (AD a.k.length λ (i : Nat) => gD a.k i))).fst i).hi) /\ (AD (IT (GK.mk (AD a.g.length λ (i : Nat) => gD a.g i) (AD a.k.length λ (i
 : Nat) => gD a.k i))).fst.length λ (i : Nat) => gD (IT (GK.mk (AD a.g.length λ (i : Nat) => gD a.g i) (AD a.k.length λ (i : Nat) => gD a.k i))).fst i).length < 1073741824 /\ ∀ (g : Gau), List.Mem g (AD (IT
 (GK.mk (AD a.g.length λ (i : Nat) => gD a.g i) (AD a.k.length λ (i : Nat) => gD a.k i))).fst.length λ (i : Nat) => gD (IT (GK.mk (AD a.g.length λ (i : Nat) => gD a.g i) (AD a.k.length λ (i : Nat) => gD a.k
 i))).fst i) -> 0 <= g.st /\ g.st <= 2000 /\ 0 <= g.lo /\ g.lo <= g.hi /\ g.hi <= 200000) /\ Vj a = !(BH (AD (IT (GK.mk (AD a.g.length λ (i : Nat) => gD a.g i) (AD a.k.length λ (i : Nat) => gD a.k i))).fst.length fun
 (i : Nat) => gD (IT (GK.mk (AD a.g.length λ (i : Nat) => gD a.g i) (AD a.k.length λ (i : Nat) => gD a.k i))).fst i)).snd /\ Ik a = 0) := by kernel_rfl
theorem ACG : AG Try.prog Hv (C_isKnot.spec dGsK) := JX C_isKnot (λ _ => ann 12 [(AIR, C_line.spec dGsK)]) [] [] BUA (λ _ => by kernel_rfl) (λ _ => AB BPW AE) (λ (s : List Gau) h => by
 show BKZ s; rw [BTW]; simp only [CC, eq_self, implies_true, forall_const]; exact h) (λ _ => KJ rfl rfl) _
theorem hGG (xs : List AVal) (a : GG) (h : dGG xs = some a) : xs = xGG a := by
 unfold dGG at h; split at h <;> cases h; rfl
theorem CKC : AG Try.prog ZC CJF := HF xGG hGG λ a _ => RD (A := ann 10 [(dB, ABA)]) (ren := []) (fz := []) BUO (by kernel_rfl) (AB BGP AE) (by
 show CJM a; rw [CLV])
theorem BVB : AG Try.prog BAC (C_sorted.spec BKY) := JX C_sorted BKM [] [] BUG (λ _ => by kernel_rfl) (λ _ => AB CKC AE) (λ (s : List Gau) h => by
 show BKG s; rw [BVC]; simp only [CC, eq_self, implies_true, forall_const]
 obtain ⟨h1, h2⟩ : 0 < s.length /\ s.length < 1073741824 := h
 refine ⟨⟨s.length - 1, by rw [EO (by omega) (by omega)]; omega, by omega, rfl⟩, λ k ⟨hk1, hk2⟩ => ⟨λ hlt => ?_, λ hge => ?_⟩⟩
 ·obtain ⟨k, rfl⟩ : ∃ n, k = n + 1 := ⟨k - 1, by omega⟩
  have e : IntKind.i64.wrap (((k + 1 : Nat) : Int) - 1) = (k : Nat) := by rw [EO (by omega) (by omega)]; omega
  rw [e, Int.toNat_natCast]
  unfold srtK at hk2
  refine ⟨⟨⟨by omega, by omega⟩, by omega, by omega⟩, λ hc => ?_, λ hc => ⟨k, rfl, ⟨by omega, ?_⟩, by omega⟩⟩
  ·rw [hk2, decide_eq_true hc]; rfl
  ·rw [hk2, decide_eq_false hc]; rfl
 ·rw [hk2, show k = 0 by omega]; rfl) (λ _ => KJ rfl rfl) _
theorem AFN {a : GK} (hg : a.g.length < 1073741824) (h : Jo a = true) : 2 <= a.k.length /\ a.k.length <= 3 /\ ∀ x ∈ a.k, 0 <= x /\ x < a.g.length := by
 unfold Jo at h
 cases hc : FT a.k.length 2 3 with
 | false => rw [hc] at h; cases h
 | true =>
  rw [hc] at h
  have h : (a.k.all λ x => FT x 0 (wr (a.g.length - 1))) = true := h
  unfold FT at hc
  simp only [Bool.and_eq_true, decide_eq_true_eq] at hc
  refine ⟨by omega, by omega, λ x hx => ?_⟩
  have := List.all_eq_true.1 h x hx
  unfold FT wr at this
  rw [EO (by omega) (by omega)] at this
  simp only [Bool.and_eq_true, decide_eq_true_eq] at this
  omega
theorem CEY (a : GK) (h1 : a.g.length < 1073741824) (h2 : a.k.length < 1073741824) : BQC a := by
 rw [BZC]; delta ACD Sv Qq E9 XJ Qz AAF H7 E1 ADI Fs Eo Hd Az Ef En lN Vw Xa Hj bP Yl gE Bn Er Ew iA Zu Ea aP Gz Bp Gm Gy SK Bu eG fZ Cn Ep; simp only [CC, eq_self, implies_true, forall_const]
 have hk : ∀ {i : Nat}, Jo a = true -> i < a.k.length -> 0 <= gD a.k i /\ gD a.k i < a.g.length := λ h hi => (AFN h1 h).2.2 _ (BZ hi)
 have hl : ∀ i, ((a.k.take i).map λ i => gD a.g i.toNat).length <= a.k.length := λ i => by simp; omega
 have hnl : (Ns a).length = a.k.length := by unfold Ns; simp
 refine ⟨λ _ => by omega, λ hb => ?_, λ hb => ⟨⟨⟨default, ?_⟩, λ hn => ⟨λ hlt => ⟨⟨by omega, by omega⟩, ⟨hk hn (by omega), by omega, by omega, by omega, by omega, by omega⟩, ⟨1, [gD a.g (gD a.k 0).toNat]⟩, ⟨rfl, rfl, rfl, λ i hi => ?_⟩, ⟨hn, by show 0 < 1; omega, by show 1 <= _; omega, ?_⟩, by show a.k.length - 1 < _; omega⟩, λ hge => ?_⟩, λ x ⟨hn, x1, x2, x3⟩ => ⟨λ hlt => ⟨⟨by omega, by omega⟩, ⟨hk hn (by omega), by omega, λ h => (by cases h), ?_, ?_⟩, ⟨x.i + 1, x.l ++ [gD a.g (gD a.k x.i).toNat]⟩, ⟨by simp, (CA (by omega)).symm, by simp, BQM _ _⟩, ⟨hn, by show 0 < x.i + 1; omega, by show x.i + 1 <= _; omega, ?_⟩, by show a.k.length - (x.i + 1) < _; omega⟩, λ hge => ⟨default, ?_, hn⟩⟩⟩, λ hn => ?_⟩⟩
 ·have e : Jo a = false := by
   unfold Jo
   cases hc : FT a.k.length 2 3 with
   | false => rfl
   | true => rw [hc] at hb; simpa using hb
  have : IT a = ([], false) := by unfold IT; rw [e]; rfl
  rw [this]; exact ⟨rfl, rfl, rfl⟩
 ·unfold Jo
  cases hc : FT a.k.length 2 3 with
  | false => rw [hc] at hb; cases hb
  | true => rw [hc] at hb; simpa using hb
 ·have hi : i < 1 := hi
  rw [show i = 0 by omega]; exact ⟨rfl, rfl, rfl⟩
 ·show [gD a.g (gD a.k 0).toNat] = (a.k.take 1).map _
  rw [EZ (by omega : 0 < a.k.length)]; rfl
 ·have := AFN h1 hn; omega
 ·have := hl x.i; rw [<- x3] at this; omega
 ·have := hl x.i; rw [<- x3] at this; omega
 ·show x.l ++ _ = (a.k.take (x.i + 1)).map _
  rw [EZ (by omega : x.i < a.k.length), List.map_append, x3]; rfl
 ·have : x.l = Ns a := by rw [x3, List.take_of_length_le (by omega)]; rfl
  rw [this]; exact ⟨rfl, Nat.le_refl _, λ _ _ => ⟨rfl, rfl, rfl⟩⟩
 ·have := AFN h1 hn
  have e : IT a = (Ns a, nmB (Ns a)) := by unfold IT; rw [hn]; rfl
  rw [e, EO (by omega) (by omega)]
  refine ⟨⟨by omega, by omega⟩, ⟨λ _ => ⟨by omega, by omega⟩, λ _ => ⟨by omega, by omega⟩⟩, rfl, λ _ _ => ⟨rfl, rfl, rfl⟩, ?_⟩
  rw [show ((Ns a).length - 1 : Int).toNat = (Ns a).length - 1 by omega]; rfl
theorem BKD : AG Try.prog AFR (C_named.spec dGK) := JX C_named BSV [] [] BWT (λ _ => by kernel_rfl) (λ _ => AB Ka (AB CPY (AB BVB AE))) (λ (a : GK) h => CEY a h.1 h.2) (λ _ => KJ rfl rfl) _
theorem CAR {a : GK} (hg : ∀ g ∈ a.g, GY g) (h1 : a.g.length < 1073741824) : (IT a).1.length < 1073741824 /\ ∀ g ∈ (IT a).1, GY g := by
 unfold IT
 cases hc : Jo a with
 | false => exact ⟨by show 0 < _; omega, λ g hg => by cases hg⟩
 | true =>
  have := AFN h1 hc
  refine ⟨by show (Ns a).length < _; unfold Ns; rw [List.length_map]; omega, λ g hgm => ?_⟩
  have hgm : g ∈ Ns a := hgm
  unfold Ns at hgm
  obtain ⟨x, hx, rfl⟩ := List.mem_map.1 hgm
  have := this.2.2 x hx
  exact hg _ (BZ (by omega))
theorem PS {g : List Gau} (h : AT g = 0) : (1 <= g.length /\ g.length <= 24) /\ ∀ x ∈ g, GY x := by
 unfold AT at h
 cases h2 : FT g.length 1 24 with
 | false => rw [h2] at h; cases h
 | true =>
  rw [h2] at h
  cases h3 : g.all Tf with
  | false => rw [h3] at h; cases h
  | true =>
   unfold FT at h2
   simp only [Bool.and_eq_true, decide_eq_true_eq] at h2
   refine ⟨by omega, λ x hx => ?_⟩
   have := List.all_eq_true.1 h3 x hx
   unfold Tf FT at this
   simp only [Bool.and_eq_true, decide_eq_true_eq] at this
   unfold GY; omega
theorem CEL : AG Try.prog BOU (C_Knot.spec dGK) := JX C_Knot (λ _ => CBI) [] [] CFH (λ _ => by kernel_rfl) (λ _ => AB pF (AB BKD (AB ACG AE))) (λ (a : GK) h => by
 show CBF a; rw [CGY]; simp only [CC, eq_self, implies_true, forall_const]
 obtain ⟨h1, h2⟩ : a.g.length < 1073741824 /\ a.k.length < 1073741824 := h
 refine ⟨by omega, λ hc => ?_, λ hc => ⟨⟨h1, h2⟩, λ hn => ?_, λ hn => ?_⟩⟩
 ·have e0 : (AT a.g == 0) = false := by simpa using hc
  have e : Ik a = AT a.g := by unfold Ik; rw [e0]; rfl
  have e2 : Vj a = false := by unfold Vj; rw [e, e0]; rfl
  exact ⟨e2, e⟩
 all_goals
  have c0 : AT a.g = 0 := by simpa using hc
  have e0 : (AT a.g == 0) = true := by simpa using hc
 ·have e : Ik a = 2 := by unfold Ik; rw [e0, show (IT a).2 = false from hn]; rfl
  have e2 : Vj a = false := by unfold Vj; rw [e]; rfl
  exact ⟨e2, e⟩
 ·have e : Ik a = 0 := by unfold Ik; rw [e0, show (IT a).2 = true from hn]; rfl
  have e2 : Vj a = !(BH (IT a).1).2 := by unfold Vj; rw [e]; rfl
  exact ⟨CAR (PS c0).2 h1, e2, e⟩) (λ _ => KJ rfl rfl) _
end Go.Bal
