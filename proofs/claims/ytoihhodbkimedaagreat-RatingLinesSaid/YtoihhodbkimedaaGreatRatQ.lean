/- Package rating: knots. -/
import Derived.Test.YtoihhodbkimedaaGreatRatP
set_option linter.unusedVariables false
set_option linter.unusedSimpArgs false
namespace Go.Bal
open Go Go.Sym Go.Proofs
def C_isKnot : Ctr := { C_line with val := λ (s : List Gau) => .bool (!(BL s).2) }
def ATL (s : List Gau) : Prop := AO Try.prog (ann 12 [(P0, C_line.spec dGsK)]) AGL (AF AGL) (C_isKnot.xs s) (AC []) (C_isKnot.val s) [] [] []
theorem BDQ (s : List Gau) : (ATL s) = (((AD s.length λ (i : Nat) => gD s i).length = s.length /\ (∀ (i : Nat), i < (AD s.length λ (i : Nat) => gD s i).length -> (gD (AD s.length λ (i : Nat) => gD s i)
 i).st = (gD s i).st /\ (gD (AD s.length λ (i : Nat) => gD s i) i).lo = (gD s i).lo /\ (gD (AD s.length λ (i : Nat) => gD s i) i).hi = (gD s i).hi) /\ (AD s.length λ (i : Nat) => gD s i).length < 1073741824 /\ ∀ (g :
 Gau), List.Mem g (AD s.length λ (i : Nat) => gD s i) -> 0 <= g.st /\ g.st <= 2000 /\ 0 <= g.lo /\ g.lo <= g.hi /\ g.hi <= 200000) /\ (!(BL s).snd) = !(BL (AD s.length λ (i : Nat) => gD s i)).snd) := by kernel_rfl
structure GG where
 a : Gau
 b : Gau
def dGG : List AVal -> Option GG
 | [.d (.agg [.v (.int .i64 a), .v (.int .i64 b), .v (.int .i64 c)]), .d (.agg [.v (.int .i64 p), .v (.int .i64 q), .v (.int .i64 r)])] => some ⟨⟨a, b, c⟩, ⟨p, q, r⟩⟩
 | _ => none
def xGG (a : GG) : List AVal := [.d (uX a.a), .d (uX a.b)]
def BRT := pD dGG λ a => .int (JH a.a.st a.b.st)
def BQP (a : GG) : Prop := AO Try.prog (ann 10 [(Sn, uK)]) R2 (AF R2) (xGG a) (AC []) (.int (JH a.a.st a.b.st)) [] [] []
theorem BVS (a : GG) : (BQP a) = (JH a.a.st a.b.st = JH a.a.st a.b.st) := by kernel_rfl
def srtK (s : List Gau) : Nat -> Bool
 | 0 => true
 | k + 1 => bif decide (JH (gD s (k + 1)).st (gD s k).st < 0) then false else srtK s k
def srtM (s : List Gau) : Bool := srtK s (s.length - 1)
def C_sorted : Ctr := { α := List Gau, xs := λ s => [.d (BE s), .fn (.func VS) [] []], L := λ _ => [], val := λ s => .bool (srtM s), keep := λ _ => [], pre := λ s => [0 < s.length /\ s.length < 1073741824] }
def ATQ : List AVal -> Heap -> Option (List Gau × List (Nat × Nat) × List Nat)
 | [y, .fn (.func g) [] []], H => if g = VS then match kX y H with
  | some (l, f) => some (l, [], f)
  | none => none else none
 | _, _ => none
def so2 (s : List Gau) : Shape := { α := Nat, dflt := 0, T := λ k => ⟨[(0, .d (BE s)), (1, .fn (.func VS) [] []), (5, .int k)], []⟩, inv := λ k => k + 1 <= s.length /\ srtM s = srtK s k, meas := λ k => k }
def ATU (s : List Gau) : Ann := { ann 25 [(VS, BRT)] with loops := λ id => if id = 2 then some [so2 s] else none }
def AUC (s : List Gau) : Prop := AO Try.prog (ATU s) AET (AF AET) (C_sorted.xs s) (AC []) (C_sorted.val s) [] [] []
theorem BDC (s : List Gau) : (AUC s) = ((∃ (a : Nat), (s.length = s.length /\ (∀ (i : Nat), i < s.length -> (gD s i).st = (gD s i).st /\ (gD s i).lo = (gD s i).lo /\ (gD s i).hi = (gD s i).hi) /\ (↑a : Int) =
 IntKind.i64.wrap ((↑s.length : Int) - 1)) /\ a + 1 <= s.length /\ srtM s = srtK s a) /\ ∀ (a : Nat), a + 1 <= s.length /\ srtM s = srtK s a -> bif decide ((↑a : Int) > 0) then ((0 <= (↑a : Int) /\ (↑a : Int) < (↑s.length : Int))
 /\ 0 <= IntKind.i64.wrap ((↑a : Int) - 1) /\ IntKind.i64.wrap ((↑a : Int) - 1) < (↑s.length : Int)) /\ bif decide (JH (gD s a).st (gD s (IntKind.i64.wrap ((↑a : Int) - 1)).toNat).st < 0) then srtM s = false else ∃ (a_2 :
 Nat), (s.length = s.length /\ (∀ (i : Nat), i < s.length -> (gD s i).st = (gD s i).st /\ (gD s i).lo = (gD s i).lo /\ (gD s i).hi = (gD s i).hi) /\ (↑a_2 : Int) = IntKind.i64.wrap ((↑a : Int) - 1)) /\ (a_2 + 1 <= s.length /\
 srtM s = srtK s a_2) /\ a_2 < a else srtM s = true) := by kernel_rfl
structure GK where
 g : List Gau
 k : List Int
def dGK : List AVal -> Heap -> Option (GK × List (Nat × Nat) × List Nat)
 | [x, y], H => match kX x H, Re y H with
  | some (l, f), some (m, e) => some (⟨l, m⟩, [], f ++ e)
  | _, _ => none
 | _, _ => none
def xGK (a : GK) : List AVal := [.d (BE a.g), .d (BD a.k)]
def Gk (a : GK) : List Gau := a.k.map λ i => gD a.g i.toNat
def En (a : GK) : Bool := bif CJ a.k.length 2 3 then a.k.all λ x => CJ x 0 (wr (a.g.length - 1)) else false
def nmB (s : List Gau) : Bool := bif srtM s then decide ((gD s 0).st < (gD s (s.length - 1)).st) else false
def HQ (a : GK) : List Gau × Bool := bif En a then (Gk a, nmB (Gk a)) else ([], false)
def C_named : Ctr := { α := GK, xs := xGK, L := λ _ => [], val := λ a => .tup [.d (BE (HQ a).1), .bool (HQ a).2], keep := λ _ => [], pre := λ a => [a.g.length < 1073741824 /\ a.k.length < 1073741824] }
def nm5n (a : GK) : Shape := { α := One, dflt := default, T := λ _ => ⟨[(2, .bptr 200 0), (6, .d PQ), (20, .d (BD a.k)), (21, .int a.k.length), (22, .int 0)], [(200, .live (.box [.d (BE a.g)]))]⟩, inv := λ _ => En a = true, meas := λ _ => a.k.length + 1, first := [(200, 1000)] }
def nm5o (a : GK) : Shape := { α := GsK, dflt := default, T := λ x => ⟨[(2, .bptr 200 0), (6, .own 201 3 0 x.l.length), (20, .d (BD a.k)), (21, .int a.k.length), (22, .int x.i)], [(200, .live (.box [.d (BE a.g)])), (201, .live (rowG x.l))]⟩, inv := λ x => En a = true /\ 1 <= x.i /\ x.i <= a.k.length /\ x.l = (a.k.take x.i).map λ i => gD a.g i.toNat, meas := λ x => a.k.length - x.i, again := [(201, 8096)] }
def nm9 (a : GK) : Shape := { α := One, dflt := default, T := λ _ => ⟨[(6, .d (BE (Gk a)))], []⟩, inv := λ _ => En a = true, meas := λ _ => 0, ffz := [201] }
def BBQ (a : GK) : Ann := { ann 52 [(Qw, Uh), (n_eI, C4In.spec d4In), (Y7, C_sorted.spec ATQ)] with mt := λ id => id == 7, loops := λ id => if id = 5 then some [nm5n a, nm5o a] else none, cut := λ id => if id = 9 then some [nm9 a] else none }
def AZF (a : GK) : Prop := AO Try.prog (BBQ a) ARF (AF ARF) (C_named.xs a) (AC []) (C_named.val a) [] [] []
abbrev tI (a : GK) : Bool := !CJ (↑a.k.length : Int) (2 : Int) (3 : Int)
abbrev Ov (a : GK) : List Int := AD a.k.length λ (i : Nat) => gD a.k i
abbrev Og (a : GK) : Nat := (Ov a).length
abbrev vM (a : GK) : List Gau := AD a.g.length λ (i : Nat) => gD a.g i
abbrev UX (a : GK) : Nat := (vM a).length
abbrev Lf (a : GK) (i : Nat) : Gau := gD (vM a) i
abbrev tK (a : GK) (i : Nat) : Int := (Lf a i).st
abbrev uG (a : GK) (i : Nat) : Int := (Lf a i).lo
abbrev rN (a : GK) (i : Nat) : Int := (Lf a i).hi
abbrev wU (a : GK) : Prop := (HQ a).fst.length = (0 : Nat)
abbrev Dg : Prop := (0 : Nat) = (0 : Nat)
abbrev Aw (a : GK) : Prop := a.k.length = a.k.length
abbrev ZX (a : GK) : Prop := ∀ (i : Nat), i < a.k.length -> gD a.k i = gD a.k i
abbrev ZK (a : GK) : Prop := (↑a.k.length : Int) = (↑a.k.length : Int)
abbrev Aj (a : GK) : Prop := a.g.length = a.g.length
abbrev Br (a : GK) : Prop := ∀ (i : Nat), i < a.g.length -> (gD a.g i).st = (gD a.g i).st /\ (gD a.g i).lo = (gD a.g i).lo /\ (gD a.g i).hi = (gD a.g i).hi
abbrev cK (a : GK) : Prop := (0 : Int) < (↑a.k.length : Int)
abbrev bC : Prop := (0 : Int) <= (0 : Int)
abbrev Vj (a : GK) : Int := gD a.k (0 : Nat)
abbrev YO : Prop := (0 : Nat) < (1 : Nat)
abbrev Xk : Prop := (3 : Nat) = (3 : Nat)
abbrev dT : Prop := (1 : Nat) <= (1 : Nat) /\ (YO -> Xk)
abbrev bJ (a : GsK) : Prop := a.l.length = (1 : Nat)
abbrev YG (a : GK) : Gau := gD a.g (gD a.k (Int.toNat (0 : Int))).toNat
abbrev ZM (a : GK) (a1 : GsK) : Prop := En a = true /\ (1 : Nat) <= a1.i /\ a1.i <= a.k.length /\ a1.l = List.map (λ (i : Int) => gD a.g i.toNat) (List.take a1.i a.k)
abbrev Bi (a : GK) (a1 : GsK) : Nat := a.k.length - a1.i
abbrev cO (a : GK) : Prop := (Gk a).length = (0 : Nat)
abbrev aC (a : GsK) (a1 : GK) : Prop := (↑a.i : Int) < (↑a1.k.length : Int)
abbrev Be (a : GsK) : Nat := a.l.length + (1 : Nat)
abbrev Tm (a : GsK) (a1 : GsK) : Prop := a.l.length = Be a1
abbrev Dw (i : Nat) (a : GsK) : Bool := decide (i < a.l.length)
abbrev De (a : GK) (a1 : GsK) : Gau := gD a.g (gD a.k a1.i).toNat
abbrev Cj (a : GsK) (j : Nat) : Gau := gD a.l ((0 : Nat) + j)
abbrev Dr (a : GK) : List Gau := AD (Gk a).length λ (i : Nat) => gD (Gk a) i
abbrev RA (a : GK) : Nat := (Dr a).length
abbrev YC (a : GK) (i : Nat) : Gau := gD (Dr a) i
abbrev aW (a : GK) : Bool := srtM (Dr a)
abbrev aF (a : GK) : Prop := aW a = true
abbrev Dk (a : GK) : Int := IntKind.i64.wrap ((↑(Gk a).length : Int) - (1 : Int))
abbrev ZC (a : GK) (i : Nat) : Gau := gD (HQ a).fst i
theorem BJM (a : GK) : (AZF a) = (((!tI a) = true -> Og a = a.k.length /\ (∀ (i : Nat), i < Og a -> gD (Ov a) i = gD a.k i) /\ UX a = a.g.length /\ (∀ (i : Nat), i < UX a ->
 tK a i = (gD a.g i).st /\ uG a i = (gD a.g i).lo /\ rN a i = (gD a.g i).hi) /\ a.g.length = UX a /\ (∀ (i : Nat), i < a.g.length -> (gD a.g i).st = tK a i /\ (gD a.g i).lo = uG a i /\
 (gD a.g i).hi = rN a i) /\ Og a < (4611686018427387904 : Nat) /\ True) /\ bif bif tI a then true else !(Ov a).all λ (x : Int) => CJ x (0 : Int) (wr ((↑(UX a) : Int) - (1 : Int))) then
 wU a /\ wU a /\ (HQ a).snd = false else ((∃ (a_1 : One), (Dg /\ (∀ (i : Nat), i < (0 : Nat) -> false = false) /\ Aw a /\ ZX a /\ ZK a /\ Int.ofNat (0 : Nat) = Int.ofNat (0 : Nat) /\
 Aj a /\ Br a) /\ En a = true) /\ (∀ (a_1 : One), En a = true -> bif decide (cK a) then (bC /\ cK a) /\ (((0 : Int) <= Vj a /\ Vj a < (↑a.g.length : Int)) /\ (True /\ ((0
 : Nat) < (0 : Nat) -> (0 : Nat) = (3 : Nat))) /\ dT /\ (true = true -> YO) /\ (1 : Nat) <= (9223372036854775807 : Nat) /\ (24 : Nat) <= (140737488355328 : Nat)) /\ ∃ (a_3 : GsK), (Dg /\ bJ a_3 /\
 Aw a /\ ZX a /\ ZK a /\ (↑a_3.i : Int) = IntKind.i64.wrap ((0 : Int) + (1 : Int)) /\ Aj a /\ Br a /\ bJ a_3 /\ ∀ (i : Nat), i < a_3.l.length -> (gD a_3.l i).st = (YG a).st
 /\ (gD a_3.l i).lo = (YG a).lo /\ (gD a_3.l i).hi = (YG a).hi) /\ ZM a a_3 /\ Bi a a_3 < a.k.length + (1 : Nat) else ∃ (a_3 : One), (cO a /\ cO a) /\ En a = true) /\ ∀ (a_1 :
 GsK), ZM a a_1 -> bif decide (aC a_1 a) then ((0 : Int) <= (↑a_1.i : Int) /\ aC a_1 a) /\ (((0 : Int) <= gD a.k a_1.i /\ gD a.k a_1.i < (↑a.g.length : Int)) /\ (a_1.l.length = a_1.l.length /\ ((0 : Nat) <
 a_1.l.length -> Xk)) /\ dT /\ (false = true -> YO) /\ Be a_1 <= (9223372036854775807 : Nat) /\ Be a_1 * (24 : Nat) <= (140737488355328 : Nat)) /\ ∃ (a_3 : GsK), (Dg /\ Tm a_3
 a_1 /\ Aw a /\ ZX a /\ ZK a /\ (↑a_3.i : Int) = IntKind.i64.wrap ((↑a_1.i : Int) + (1 : Int)) /\ Aj a /\ Br a /\ Tm a_3 a_1 /\ ∀ (i : Nat), i < a_3.l.length -> ((gD a_3.l i).st =
 bif Dw i a_1 then (gD a_1.l i).st else (De a a_1).st) /\ ((gD a_3.l i).lo = bif Dw i a_1 then (gD a_1.l i).lo else (De a a_1).lo) /\ (gD a_3.l i).hi = bif Dw i a_1 then (gD a_1.l
 i).hi else (De a a_1).hi) /\ ZM a a_3 /\ Bi a a_3 < Bi a a_1 else ∃ (a_3 : One), ((Gk a).length = a_1.l.length /\ (0 : Nat) + a_1.l.length <= a_1.l.length /\ ∀ (j : Nat), j < (Gk a).length ->
 (gD (Gk a) j).st = (Cj a_1 j).st /\ (gD (Gk a) j).lo = (Cj a_1 j).lo /\ (gD (Gk a) j).hi = (Cj a_1 j).hi) /\ En a = true) /\ ∀ (a_1 : One), En a = true -> (RA a = (Gk a).length /\ (∀ (i
 : Nat), i < RA a -> (YC a i).st = (gD (Gk a) i).st /\ (YC a i).lo = (gD (Gk a) i).lo /\ (YC a i).hi = (gD (Gk a) i).hi) /\ (0 : Nat) < RA a /\ RA a < (1073741824 : Nat)) /\
 ((aF a -> bC /\ (0 : Int) < (↑(Gk a).length : Int)) /\ (aF a -> (0 : Int) <= Dk a /\ Dk a < (↑(Gk a).length : Int))) /\ (HQ a).fst.length = (Gk a).length /\ (∀ (i : Nat), i < (HQ
 a).fst.length -> (ZC a i).st = (gD (Gk a) i).st /\ (ZC a i).lo = (gD (Gk a) i).lo /\ (ZC a i).hi = (gD (Gk a) i).hi) /\ (HQ a).snd = bif aW a then decide ((gD (Gk a) (Int.toNat (0 :
 Int))).st < (gD (Gk a) (Dk a).toNat).st) else false) := by kernel_rfl
def Jn (a : GK) : Int := bif AK a.g == 0 then (bif (HQ a).2 then 0 else 2) else AK a.g
def Ro (a : GK) : Bool := bif Jn a == 0 then !(BL (HQ a).1).2 else false
def C_Knot : Ctr := { α := GK, xs := xGK, L := λ _ => [], val := λ a => .tup [.bool (Ro a), .int (Jn a)], keep := λ _ => [], pre := λ a => [a.g.length < 1073741824 /\ a.k.length < 1073741824] }
def BHS : Ann := ann 24 [(Cb, C_Check.spec JW), (J7, C_named.spec dGK), (Je, C_isKnot.spec dGsK)]
def BHD (a : GK) : Prop := AO Try.prog BHS AYE (AF AYE) (C_Knot.xs a) (AC []) (C_Knot.val a) [] [] []
theorem BOD (a : GK) : (BHD a) = (((AD a.g.length λ (i : Nat) => gD a.g i).length = a.g.length /\ (∀ (i : Nat), i < (AD a.g.length λ (i : Nat) => gD a.g i).length -> (gD (AD a.g.length λ (i : Nat) => gD a.g
 i) i).st = (gD a.g i).st /\ (gD (AD a.g.length λ (i : Nat) => gD a.g i) i).lo = (gD a.g i).lo /\ (gD (AD a.g.length λ (i : Nat) => gD a.g i) i).hi = (gD a.g i).hi) /\ (AD a.g.length λ (i : Nat) => gD a.g i).length
 < 4611686018427387904 /\ True) /\ bif AK (AD a.g.length λ (i : Nat) => gD a.g i) != 0 then Ro a = false /\ Jn a = AK (AD a.g.length λ (i : Nat) => gD a.g i) else ((AD a.g.length λ (i : Nat) => gD a.g
 i).length = a.g.length /\ (∀ (i : Nat), i < (AD a.g.length λ (i : Nat) => gD a.g i).length -> (gD (AD a.g.length λ (i : Nat) => gD a.g i) i).st = (gD a.g i).st /\ (gD (AD a.g.length λ (i : Nat) => gD a.g i) i).lo =
 (gD a.g i).lo /\ (gD (AD a.g.length λ (i : Nat) => gD a.g i) i).hi = (gD a.g i).hi) /\ (AD a.k.length λ (i : Nat) => gD a.k i).length = a.k.length /\ (∀ (i : Nat), i < (AD a.k.length λ (i : Nat) => gD a.k i).length
 -> gD (AD a.k.length λ (i : Nat) => gD a.k i) i = gD a.k i) /\ (AD a.g.length λ (i : Nat) => gD a.g i).length < 1073741824 /\ (AD a.k.length λ (i : Nat) => gD a.k i).length < 1073741824) /\ bif !(HQ (GK.mk (AD
 a.g.length λ (i : Nat) => gD a.g i) (AD a.k.length λ (i : Nat) => gD a.k i))).snd then Ro a = false /\ Jn a = 2 else ((AD (HQ (GK.mk (AD a.g.length λ (i : Nat) => gD a.g i) (AD a.k.length λ (i : Nat) =>
 gD a.k i))).fst.length λ (i : Nat) => gD (HQ (GK.mk (AD a.g.length λ (i : Nat) => gD a.g i) (AD a.k.length λ (i : Nat) => gD a.k i))).fst i).length = (HQ (GK.mk (AD a.g.length λ (i : Nat) => gD a.g i) (AD
 a.k.length λ (i : Nat) => gD a.k i))).fst.length /\ (∀ (i : Nat), i < (AD (HQ (GK.mk (AD a.g.length λ (i : Nat) => gD a.g i) (AD a.k.length λ (i : Nat) => gD a.k i))).fst.length λ (i : Nat) => gD (HQ (GK.mk
 (AD a.g.length λ (i : Nat) => gD a.g i) (AD a.k.length λ (i : Nat) => gD a.k i))).fst i).length -> (gD (AD (HQ (GK.mk (AD a.g.length λ (i : Nat) => gD a.g i) (AD a.k.length λ (i : Nat) => gD a.k
 i))).fst.length λ (i : Nat) => gD (HQ (GK.mk (AD a.g.length λ (i : Nat) => gD a.g i) (AD a.k.length λ (i : Nat) => gD a.k i))).fst i) i).st = (gD (HQ (GK.mk (AD a.g.length λ (i : Nat) => gD a.g i) (AD
 a.k.length λ (i : Nat) => gD a.k i))).fst i).st /\ (gD (AD (HQ (GK.mk (AD a.g.length λ (i : Nat) => gD a.g i) (AD a.k.length λ (i : Nat) => gD a.k i))).fst.length λ (i : Nat) => gD (HQ (GK.mk (AD a.g.length
 λ (i : Nat) => gD a.g i) (AD a.k.length λ (i : Nat) => gD a.k i))).fst i) i).lo = (gD (HQ (GK.mk (AD a.g.length λ (i : Nat) => gD a.g i) (AD a.k.length λ (i : Nat) => gD a.k i))).fst i).lo /\ (gD (AD (HQ
 (GK.mk (AD a.g.length λ (i : Nat) => gD a.g i) (AD a.k.length λ (i : Nat) => gD a.k i))).fst.length λ (i : Nat) => gD (HQ (GK.mk (AD a.g.length λ (i : Nat) => gD a.g i) (AD a.k.length λ (i : Nat) => gD a.k
 i))).fst i) i).hi = (gD (HQ (GK.mk (AD a.g.length λ (i : Nat) => gD a.g i) (AD a.k.length λ (i : Nat) => gD a.k i))).fst i).hi) /\ (AD (HQ (GK.mk (AD a.g.length λ (i : Nat) => gD a.g i) (AD a.k.length λ (i
 : Nat) => gD a.k i))).fst.length λ (i : Nat) => gD (HQ (GK.mk (AD a.g.length λ (i : Nat) => gD a.g i) (AD a.k.length λ (i : Nat) => gD a.k i))).fst i).length < 1073741824 /\ ∀ (g : Gau), List.Mem g (AD (HQ
 (GK.mk (AD a.g.length λ (i : Nat) => gD a.g i) (AD a.k.length λ (i : Nat) => gD a.k i))).fst.length λ (i : Nat) => gD (HQ (GK.mk (AD a.g.length λ (i : Nat) => gD a.g i) (AD a.k.length λ (i : Nat) => gD a.k
 i))).fst i) -> 0 <= g.st /\ g.st <= 2000 /\ 0 <= g.lo /\ g.lo <= g.hi /\ g.hi <= 200000) /\ Ro a = !(BL (AD (HQ (GK.mk (AD a.g.length λ (i : Nat) => gD a.g i) (AD a.k.length λ (i : Nat) => gD a.k i))).fst.length fun
 (i : Nat) => gD (HQ (GK.mk (AD a.g.length λ (i : Nat) => gD a.g i) (AD a.k.length λ (i : Nat) => gD a.k i))).fst i)).snd /\ Jn a = 0) := by kernel_rfl
theorem xG : AG Try.prog Je (C_isKnot.spec dGsK) := GD C_isKnot (λ _ => ann 12 [(P0, C_line.spec dGsK)]) [] [] BDF (λ _ => by kernel_rfl) (λ _ => AB BCA AE) (λ (s : List Gau) h => by
 show ATL s; rw [BDQ]; simp only [CC, eq_self, implies_true, forall_const]; exact h) (λ _ => GJ rfl rfl) _
theorem hGG (xs : List AVal) (a : GG) (h : dGG xs = some a) : xs = xGG a := by
 unfold dGG at h; split at h <;> cases h; rfl
theorem BUE : AG Try.prog VS BRT := EB xGG hGG λ a _ => JZ (A := ann 10 [(Sn, uK)]) (ren := []) (fz := []) BDZ (by kernel_rfl) (AB AQB AE) (by
 show BQP a; rw [BVS])
theorem BEC : AG Try.prog Y7 (C_sorted.spec ATQ) := GD C_sorted ATU [] [] BDY (λ _ => by kernel_rfl) (λ _ => AB BUE AE) (λ (s : List Gau) h => by
 show AUC s; rw [BDC]; simp only [CC, eq_self, implies_true, forall_const]
 obtain ⟨h1, h2⟩ : 0 < s.length /\ s.length < 1073741824 := h
 refine ⟨⟨s.length - 1, by rw [HM (by omega) (by omega)]; omega, by omega, rfl⟩, λ k ⟨hk1, hk2⟩ => ⟨λ hlt => ?_, λ hge => ?_⟩⟩
 ·obtain ⟨k, rfl⟩ : ∃ n, k = n + 1 := ⟨k - 1, by omega⟩
  have e : IntKind.i64.wrap (((k + 1 : Nat) : Int) - 1) = (k : Nat) := by rw [HM (by omega) (by omega)]; omega
  rw [e, Int.toNat_natCast]
  unfold srtK at hk2
  refine ⟨⟨⟨by omega, by omega⟩, by omega, by omega⟩, λ hc => ?_, λ hc => ⟨k, rfl, ⟨by omega, ?_⟩, by omega⟩⟩
  ·rw [hk2, decide_eq_true hc]; rfl
  ·rw [hk2, decide_eq_false hc]; rfl
 ·rw [hk2, show k = 0 by omega]; rfl) (λ _ => GJ rfl rfl) _
theorem H3 {a : GK} (hg : a.g.length < 1073741824) (h : En a = true) : 2 <= a.k.length /\ a.k.length <= 3 /\ ∀ x ∈ a.k, 0 <= x /\ x < a.g.length := by
 unfold En at h
 cases hc : CJ a.k.length 2 3 with
 | false => rw [hc] at h; cases h
 | true =>
  rw [hc] at h
  have h : (a.k.all λ x => CJ x 0 (wr (a.g.length - 1))) = true := h
  unfold CJ at hc
  simp only [Bool.and_eq_true, decide_eq_true_eq] at hc
  refine ⟨by omega, by omega, λ x hx => ?_⟩
  have := List.all_eq_true.1 h x hx
  unfold CJ wr at this
  rw [HM (by omega) (by omega)] at this
  simp only [Bool.and_eq_true, decide_eq_true_eq] at this
  omega
theorem BPK (a : GK) (h1 : a.g.length < 1073741824) (h2 : a.k.length < 1073741824) : AZF a := by
 rw [BJM]; delta tI Ov Og vM UX Lf tK uG rN wU Dg Aw ZX ZK Aj Br cK bC Vj YO Xk dT bJ YG ZM Bi cO aC Be Tm Dw De Cj Dr RA YC aW aF Dk ZC; simp only [CC, eq_self, implies_true, forall_const]
 have hk : ∀ {i : Nat}, En a = true -> i < a.k.length -> 0 <= gD a.k i /\ gD a.k i < a.g.length := λ h hi => (H3 h1 h).2.2 _ (EG hi)
 have hl : ∀ i, ((a.k.take i).map λ i => gD a.g i.toNat).length <= a.k.length := λ i => by simp; omega
 have hnl : (Gk a).length = a.k.length := by unfold Gk; simp
 refine ⟨λ _ => by omega, λ hb => ?_, λ hb => ⟨⟨⟨default, ?_⟩, λ hn => ⟨λ hlt => ⟨⟨by omega, by omega⟩, ⟨hk hn (by omega), by omega, by omega, by omega, by omega, by omega⟩, ⟨1, [gD a.g (gD a.k 0).toNat]⟩, ⟨rfl, rfl, rfl, λ i hi => ?_⟩, ⟨hn, by show 0 < 1; omega, by show 1 <= _; omega, ?_⟩, by show a.k.length - 1 < _; omega⟩, λ hge => ?_⟩, λ x ⟨hn, x1, x2, x3⟩ => ⟨λ hlt => ⟨⟨by omega, by omega⟩, ⟨hk hn (by omega), by omega, λ h => (by cases h), ?_, ?_⟩, ⟨x.i + 1, x.l ++ [gD a.g (gD a.k x.i).toNat]⟩, ⟨by simp, (BH (by omega)).symm, by simp, BGW _ _⟩, ⟨hn, by show 0 < x.i + 1; omega, by show x.i + 1 <= _; omega, ?_⟩, by show a.k.length - (x.i + 1) < _; omega⟩, λ hge => ⟨default, ?_, hn⟩⟩⟩, λ hn => ?_⟩⟩
 ·have e : En a = false := by
   unfold En
   cases hc : CJ a.k.length 2 3 with
   | false => rfl
   | true => rw [hc] at hb; simpa using hb
  have : HQ a = ([], false) := by unfold HQ; rw [e]; rfl
  rw [this]; exact ⟨rfl, rfl, rfl⟩
 ·unfold En
  cases hc : CJ a.k.length 2 3 with
  | false => rw [hc] at hb; cases hb
  | true => rw [hc] at hb; simpa using hb
 ·have hi : i < 1 := hi
  rw [show i = 0 by omega]; exact ⟨rfl, rfl, rfl⟩
 ·show [gD a.g (gD a.k 0).toNat] = (a.k.take 1).map _
  rw [DG (by omega : 0 < a.k.length)]; rfl
 ·have := H3 h1 hn; omega
 ·have := hl x.i; rw [<- x3] at this; omega
 ·have := hl x.i; rw [<- x3] at this; omega
 ·show x.l ++ _ = (a.k.take (x.i + 1)).map _
  rw [DG (by omega : x.i < a.k.length), List.map_append, x3]; rfl
 ·have : x.l = Gk a := by rw [x3, List.take_of_length_le (by omega)]; rfl
  rw [this]; exact ⟨rfl, Nat.le_refl _, λ _ _ => ⟨rfl, rfl, rfl⟩⟩
 ·have := H3 h1 hn
  have e : HQ a = (Gk a, nmB (Gk a)) := by unfold HQ; rw [hn]; rfl
  rw [e, HM (by omega) (by omega)]
  refine ⟨⟨by omega, by omega⟩, ⟨λ _ => ⟨by omega, by omega⟩, λ _ => ⟨by omega, by omega⟩⟩, rfl, λ _ _ => ⟨rfl, rfl, rfl⟩, ?_⟩
  rw [show ((Gk a).length - 1 : Int).toNat = (Gk a).length - 1 by omega]; rfl
theorem ATP : AG Try.prog J7 (C_named.spec dGK) := GD C_named BBQ [] [] BIL (λ _ => by kernel_rfl) (λ _ => AB XG (AB BWZ (AB BEC AE))) (λ (a : GK) h => BPK a h.1 h.2) (λ _ => GJ rfl rfl) _
theorem BFB {a : GK} (hg : ∀ g ∈ a.g, Dd g) (h1 : a.g.length < 1073741824) : (HQ a).1.length < 1073741824 /\ ∀ g ∈ (HQ a).1, Dd g := by
 unfold HQ
 cases hc : En a with
 | false => exact ⟨by show 0 < _; omega, λ g hg => by cases hg⟩
 | true =>
  have := H3 h1 hc
  refine ⟨by show (Gk a).length < _; unfold Gk; rw [List.length_map]; omega, λ g hgm => ?_⟩
  have hgm : g ∈ Gk a := hgm
  unfold Gk at hgm
  obtain ⟨x, hx, rfl⟩ := List.mem_map.1 hgm
  have := this.2.2 x hx
  exact hg _ (EG (by omega))
theorem Gz {g : List Gau} (h : AK g = 0) : (1 <= g.length /\ g.length <= 24) /\ ∀ x ∈ g, Dd x := by
 unfold AK at h
 cases h2 : CJ g.length 1 24 with
 | false => rw [h2] at h; cases h
 | true =>
  rw [h2] at h
  cases h3 : g.all Dz with
  | false => rw [h3] at h; cases h
  | true =>
   unfold CJ at h2
   simp only [Bool.and_eq_true, decide_eq_true_eq] at h2
   refine ⟨by omega, λ x hx => ?_⟩
   have := List.all_eq_true.1 h3 x hx
   unfold Dz CJ at this
   simp only [Bool.and_eq_true, decide_eq_true_eq] at this
   unfold Dd; omega
theorem BOI : AG Try.prog AWI (C_Knot.spec dGK) := GD C_Knot (λ _ => BHS) [] [] BNA (λ _ => by kernel_rfl) (λ _ => AB VK (AB ATP (AB xG AE))) (λ (a : GK) h => by
 show BHD a; rw [BOD]; simp only [CC, eq_self, implies_true, forall_const]
 obtain ⟨h1, h2⟩ : a.g.length < 1073741824 /\ a.k.length < 1073741824 := h
 refine ⟨by omega, λ hc => ?_, λ hc => ⟨⟨h1, h2⟩, λ hn => ?_, λ hn => ?_⟩⟩
 ·have e0 : (AK a.g == 0) = false := by simpa using hc
  have e : Jn a = AK a.g := by unfold Jn; rw [e0]; rfl
  have e2 : Ro a = false := by unfold Ro; rw [e, e0]; rfl
  exact ⟨e2, e⟩
 all_goals
  have c0 : AK a.g = 0 := by simpa using hc
  have e0 : (AK a.g == 0) = true := by simpa using hc
 ·have e : Jn a = 2 := by unfold Jn; rw [e0, show (HQ a).2 = false from hn]; rfl
  have e2 : Ro a = false := by unfold Ro; rw [e]; rfl
  exact ⟨e2, e⟩
 ·have e : Jn a = 0 := by unfold Jn; rw [e0, show (HQ a).2 = true from hn]; rfl
  have e2 : Ro a = !(BL (HQ a).1).2 := by unfold Ro; rw [e]; rfl
  exact ⟨BFB (Gz c0).2 h1, e2, e⟩) (λ _ => GJ rfl rfl) _
end Go.Bal
