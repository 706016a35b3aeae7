/- Package rating: knots. -/
import Derived.Test.YtoihhodbkimedaaGreatRatP
set_option linter.unusedVariables false
set_option linter.unusedSimpArgs false
namespace Go.Bal
open Go Go.Sym Go.Proofs
def C_isKnot : Ctr := { C_line with val := λ (s : List Gau) => .bool (!(BG s).2) }
def BOB (s : List Gau) : Prop := AN Try.prog (ann 12 [(AKJ, C_line.spec dGsK)]) ALY (AF ALY) (C_isKnot.xs s) (AC []) (C_isKnot.val s) [] [] []
theorem BXU (s : List Gau) : (BOB s) = (((AE s.length λ (i : Nat) => gD s i).length = s.length /\ (∀ (i : Nat), i < (AE s.length λ (i : Nat) => gD s i).length -> (gD (AE s.length λ (i : Nat) => gD s i)
 i).st = (gD s i).st /\ (gD (AE s.length λ (i : Nat) => gD s i) i).lo = (gD s i).lo /\ (gD (AE s.length λ (i : Nat) => gD s i) i).hi = (gD s i).hi) /\ (AE s.length λ (i : Nat) => gD s i).length < 1073741824 /\ ∀ (g :
 Gau), List.Mem g (AE s.length λ (i : Nat) => gD s i) -> 0 <= g.st /\ g.st <= 2000 /\ 0 <= g.lo /\ g.lo <= g.hi /\ g.hi <= 200000) /\ (!(BG s).snd) = !(BG (AE s.length λ (i : Nat) => gD s i)).snd) := by kernel_rfl
structure GG where
 a : Gau
 b : Gau
def dGG : List AVal -> Option GG
 | [.d (.agg [.v (.int .i64 a), .v (.int .i64 b), .v (.int .i64 c)]), .d (.agg [.v (.int .i64 p), .v (.int .i64 q), .v (.int .i64 r)])] => some ⟨⟨a, b, c⟩, ⟨p, q, r⟩⟩
 | _ => none
def xGG (a : GG) : List AVal := [.d (WG a.a), .d (WG a.b)]
def COY := pD dGG λ a => .int (HU a.a.st a.b.st)
def CPF (a : GG) : Prop := AN Try.prog (ann 10 [(Zu, X4)]) AMX (AF AMX) (xGG a) (AC []) (.int (HU a.a.st a.b.st)) [] [] []
theorem CRZ (a : GG) : (CPF a) = (HU a.a.st a.b.st = HU a.a.st a.b.st) := by kernel_rfl
def srtK (s : List Gau) : Nat -> Bool
 | 0 => true
 | k + 1 => bif decide (HU (gD s (k + 1)).st (gD s k).st < 0) then false else srtK s k
def srtM (s : List Gau) : Bool := srtK s (s.length - 1)
def C_sorted : Ctr := { α := List Gau, xs := λ s => [.d (AS s), .fn (.func XY) [] []], L := λ _ => [], val := λ s => .bool (srtM s), keep := λ _ => [], pre := λ s => [0 < s.length /\ s.length < 1073741824] }
def BMQ : List AVal -> Heap -> Option (List Gau × List (Nat × Nat) × List Nat)
 | [y, .fn (.func g) [] []], H => if g = XY then match Bc y H with
  | some (l, f) => some (l, [], f)
  | none => none else none
 | _, _ => none
def so2 (s : List Gau) : Shape := { α := Nat, dflt := 0, T := λ k => ⟨[(0, .d (AS s)), (1, .fn (.func XY) [] []), (5, .int k)], []⟩, inv := λ k => k + 1 <= s.length /\ srtM s = srtK s k, meas := λ k => k }
def BLL (s : List Gau) : Ann := { ann 25 [(XY, COY)] with loops := λ id => if id = 2 then some [so2 s] else none }
def BNM (s : List Gau) : Prop := AN Try.prog (BLL s) ALL (AF ALL) (C_sorted.xs s) (AC []) (C_sorted.val s) [] [] []
theorem BZC (s : List Gau) : (BNM s) = ((∃ (a : Nat), (s.length = s.length /\ (∀ (i : Nat), i < s.length -> (gD s i).st = (gD s i).st /\ (gD s i).lo = (gD s i).lo /\ (gD s i).hi = (gD s i).hi) /\ (↑a : Int) =
 IntKind.i64.wrap ((↑s.length : Int) - 1)) /\ a + 1 <= s.length /\ srtM s = srtK s a) /\ ∀ (a : Nat), a + 1 <= s.length /\ srtM s = srtK s a -> bif decide ((↑a : Int) > 0) then ((0 <= (↑a : Int) /\ (↑a : Int) < (↑s.length : Int))
 /\ 0 <= IntKind.i64.wrap ((↑a : Int) - 1) /\ IntKind.i64.wrap ((↑a : Int) - 1) < (↑s.length : Int)) /\ bif decide (HU (gD s a).st (gD s (IntKind.i64.wrap ((↑a : Int) - 1)).toNat).st < 0) then srtM s = false else ∃ (a_2 :
 Nat), (s.length = s.length /\ (∀ (i : Nat), i < s.length -> (gD s i).st = (gD s i).st /\ (gD s i).lo = (gD s i).lo /\ (gD s i).hi = (gD s i).hi) /\ (↑a_2 : Int) = IntKind.i64.wrap ((↑a : Int) - 1)) /\ (a_2 + 1 <= s.length /\
 srtM s = srtK s a_2) /\ a_2 < a else srtM s = true) := by kernel_rfl
structure GK where
 g : List Gau
 k : List Int
def dGK : List AVal -> Heap -> Option (GK × List (Nat × Nat) × List Nat)
 | [x, y], H => match Bc x H, XT y H with
  | some (l, f), some (m, e) => some (⟨l, m⟩, [], f ++ e)
  | _, _ => none
 | _, _ => none
def xGK (a : GK) : List AVal := [.d (AS a.g), .d (BC a.k)]
def Nv (a : GK) : List Gau := a.k.map λ i => gD a.g i.toNat
def Kl (a : GK) : Bool := bif BY a.k.length 2 3 then a.k.all λ x => BY x 0 (wr (a.g.length - 1)) else false
def nmB (s : List Gau) : Bool := bif srtM s then decide ((gD s 0).st < (gD s (s.length - 1)).st) else false
def JL (a : GK) : List Gau × Bool := bif Kl a then (Nv a, nmB (Nv a)) else ([], false)
def C_named : Ctr := { α := GK, xs := xGK, L := λ _ => [], val := λ a => .tup [.d (AS (JL a).1), .bool (JL a).2], keep := λ _ => [], pre := λ a => [a.g.length < 1073741824 /\ a.k.length < 1073741824] }
def nm5n (a : GK) : Shape := { α := One, dflt := default, T := λ _ => ⟨[(2, .bptr 200 0), (6, .d Hr), (20, .d (BC a.k)), (21, .int a.k.length), (22, .int 0)], [(200, .live (.box [.d (AS a.g)]))]⟩, inv := λ _ => Kl a = true, meas := λ _ => a.k.length + 1, first := [(200, 1000)] }
def nm5o (a : GK) : Shape := { α := GsK, dflt := default, T := λ x => ⟨[(2, .bptr 200 0), (6, .own 201 3 0 x.l.length), (20, .d (BC a.k)), (21, .int a.k.length), (22, .int x.i)], [(200, .live (.box [.d (AS a.g)])), (201, .live (rowG x.l))]⟩, inv := λ x => Kl a = true /\ 1 <= x.i /\ x.i <= a.k.length /\ x.l = (a.k.take x.i).map λ i => gD a.g i.toNat, meas := λ x => a.k.length - x.i, again := [(201, 8096)] }
def nm9 (a : GK) : Shape := { α := One, dflt := default, T := λ _ => ⟨[(6, .d (AS (Nv a)))], []⟩, inv := λ _ => Kl a = true, meas := λ _ => 0, ffz := [201] }
def BWA (a : GK) : Ann := { ann 52 [(sE, Q7), (n_eI, C4In.spec d4In), (AMU, C_sorted.spec BMQ)] with mt := λ id => id == 7, loops := λ id => if id = 5 then some [nm5n a, nm5o a] else none, cut := λ id => if id = 9 then some [nm9 a] else none }
def BSZ (a : GK) : Prop := AN Try.prog (BWA a) BEX (AF BEX) (C_named.xs a) (AC []) (C_named.val a) [] [] []
abbrev W2 (a : GK) : Bool := !BY (↑a.k.length : Int) (2 : Int) (3 : Int)
abbrev Uk (a : GK) : List Int := AE a.k.length λ (i : Nat) => gD a.k i
abbrev Sa (a : GK) : Nat := (Uk a).length
abbrev F6 (a : GK) : List Gau := AE a.g.length λ (i : Nat) => gD a.g i
abbrev ZY (a : GK) : Nat := (F6 a).length
abbrev Xt (a : GK) (i : Nat) : Gau := gD (F6 a) i
abbrev ABK (a : GK) (i : Nat) : Int := (Xt a i).st
abbrev ABO (a : GK) (i : Nat) : Int := (Xt a i).lo
abbrev D6 (a : GK) (i : Nat) : Int := (Xt a i).hi
abbrev W5 (a : GK) : Prop := (JL a).fst.length = (0 : Nat)
abbrev Fh : Prop := (0 : Nat) = (0 : Nat)
abbrev Ey (a : GK) : Prop := a.k.length = a.k.length
abbrev Gu (a : GK) : Prop := ∀ (i : Nat), i < a.k.length -> gD a.k i = gD a.k i
abbrev Gv (a : GK) : Prop := (↑a.k.length : Int) = (↑a.k.length : Int)
abbrev Ia (a : GK) : Prop := a.g.length = a.g.length
abbrev Ig (a : GK) : Prop := ∀ (i : Nat), i < a.g.length -> (gD a.g i).st = (gD a.g i).st /\ (gD a.g i).lo = (gD a.g i).lo /\ (gD a.g i).hi = (gD a.g i).hi
abbrev dD (a : GK) : Prop := (0 : Int) < (↑a.k.length : Int)
abbrev kV : Prop := (0 : Int) <= (0 : Int)
abbrev dR (a : GK) : Int := gD a.k (0 : Nat)
abbrev Fx : Prop := (0 : Nat) < (1 : Nat)
abbrev mF : Prop := (3 : Nat) = (3 : Nat)
abbrev aU : Prop := (1 : Nat) <= (1 : Nat) /\ (Fx -> mF)
abbrev lQ (a : GsK) : Prop := a.l.length = (1 : Nat)
abbrev Ex (a : GK) : Gau := gD a.g (gD a.k (Int.toNat (0 : Int))).toNat
abbrev Gn (a : GK) (a1 : GsK) : Prop := Kl a = true /\ (1 : Nat) <= a1.i /\ a1.i <= a.k.length /\ a1.l = List.map (λ (i : Int) => gD a.g i.toNat) (List.take a1.i a.k)
abbrev Et (a : GK) (a1 : GsK) : Nat := a.k.length - a1.i
abbrev kU (a : GK) : Prop := (Nv a).length = (0 : Nat)
abbrev iW (a : GsK) (a1 : GK) : Prop := (↑a.i : Int) < (↑a1.k.length : Int)
abbrev Du (a : GsK) : Nat := a.l.length + (1 : Nat)
abbrev iI (a : GsK) (a1 : GsK) : Prop := a.l.length = Du a1
abbrev Il (i : Nat) (a : GsK) : Bool := decide (i < a.l.length)
abbrev Dv (a : GK) (a1 : GsK) : Gau := gD a.g (gD a.k a1.i).toNat
abbrev Ez (a : GsK) (j : Nat) : Gau := gD a.l ((0 : Nat) + j)
abbrev Ga (a : GK) : List Gau := AE (Nv a).length λ (i : Nat) => gD (Nv a) i
abbrev UB (a : GK) : Nat := (Ga a).length
abbrev Hz (a : GK) (i : Nat) : Gau := gD (Ga a) i
abbrev mQ (a : GK) : Bool := srtM (Ga a)
abbrev mM (a : GK) : Prop := mQ a = true
abbrev Io (a : GK) : Int := IntKind.i64.wrap ((↑(Nv a).length : Int) - (1 : Int))
abbrev El (a : GK) (i : Nat) : Gau := gD (JL a).fst i
theorem CIG (a : GK) : (BSZ a) = (((!W2 a) = true -> Sa a = a.k.length /\ (∀ (i : Nat), i < Sa a -> gD (Uk a) i = gD a.k i) /\ ZY a = a.g.length /\ (∀ (i : Nat), i < ZY a ->
 ABK a i = (gD a.g i).st /\ ABO a i = (gD a.g i).lo /\ D6 a i = (gD a.g i).hi) /\ a.g.length = ZY a /\ (∀ (i : Nat), i < a.g.length -> (gD a.g i).st = ABK a i /\ (gD a.g i).lo = ABO a i /\
 (gD a.g i).hi = D6 a i) /\ Sa a < (4611686018427387904 : Nat) /\ True) /\ bif bif W2 a then true else !(Uk a).all λ (x : Int) => BY x (0 : Int) (wr ((↑(ZY a) : Int) - (1 : Int))) then
 W5 a /\ W5 a /\ (JL a).snd = false else ((∃ (a_1 : One), (Fh /\ (∀ (i : Nat), i < (0 : Nat) -> false = false) /\ Ey a /\ Gu a /\ Gv a /\ Int.ofNat (0 : Nat) = Int.ofNat (0 : Nat) /\
 Ia a /\ Ig a) /\ Kl a = true) /\ (∀ (a_1 : One), Kl a = true -> bif decide (dD a) then (kV /\ dD a) /\ (((0 : Int) <= dR a /\ dR a < (↑a.g.length : Int)) /\ (True /\ ((0
 : Nat) < (0 : Nat) -> (0 : Nat) = (3 : Nat))) /\ aU /\ (true = true -> Fx) /\ (1 : Nat) <= (9223372036854775807 : Nat) /\ (24 : Nat) <= (140737488355328 : Nat)) /\ ∃ (a_3 : GsK), (Fh /\ lQ a_3 /\
 Ey a /\ Gu a /\ Gv a /\ (↑a_3.i : Int) = IntKind.i64.wrap ((0 : Int) + (1 : Int)) /\ Ia a /\ Ig a /\ lQ a_3 /\ ∀ (i : Nat), i < a_3.l.length -> (gD a_3.l i).st = (Ex a).st
 /\ (gD a_3.l i).lo = (Ex a).lo /\ (gD a_3.l i).hi = (Ex a).hi) /\ Gn a a_3 /\ Et a a_3 < a.k.length + (1 : Nat) else ∃ (a_3 : One), (kU a /\ kU a) /\ Kl a = true) /\ ∀ (a_1 :
 GsK), Gn a a_1 -> bif decide (iW a_1 a) then ((0 : Int) <= (↑a_1.i : Int) /\ iW a_1 a) /\ (((0 : Int) <= gD a.k a_1.i /\ gD a.k a_1.i < (↑a.g.length : Int)) /\ (a_1.l.length = a_1.l.length /\ ((0 : Nat) <
 a_1.l.length -> mF)) /\ aU /\ (false = true -> Fx) /\ Du a_1 <= (9223372036854775807 : Nat) /\ Du a_1 * (24 : Nat) <= (140737488355328 : Nat)) /\ ∃ (a_3 : GsK), (Fh /\ iI a_3
 a_1 /\ Ey a /\ Gu a /\ Gv a /\ (↑a_3.i : Int) = IntKind.i64.wrap ((↑a_1.i : Int) + (1 : Int)) /\ Ia a /\ Ig a /\ iI a_3 a_1 /\ ∀ (i : Nat), i < a_3.l.length -> ((gD a_3.l i).st =
 bif Il i a_1 then (gD a_1.l i).st else (Dv a a_1).st) /\ ((gD a_3.l i).lo = bif Il i a_1 then (gD a_1.l i).lo else (Dv a a_1).lo) /\ (gD a_3.l i).hi = bif Il i a_1 then (gD a_1.l
 i).hi else (Dv a a_1).hi) /\ Gn a a_3 /\ Et a a_3 < Et a a_1 else ∃ (a_3 : One), ((Nv a).length = a_1.l.length /\ (0 : Nat) + a_1.l.length <= a_1.l.length /\ ∀ (j : Nat), j < (Nv a).length ->
 (gD (Nv a) j).st = (Ez a_1 j).st /\ (gD (Nv a) j).lo = (Ez a_1 j).lo /\ (gD (Nv a) j).hi = (Ez a_1 j).hi) /\ Kl a = true) /\ ∀ (a_1 : One), Kl a = true -> (UB a = (Nv a).length /\ (∀ (i
 : Nat), i < UB a -> (Hz a i).st = (gD (Nv a) i).st /\ (Hz a i).lo = (gD (Nv a) i).lo /\ (Hz a i).hi = (gD (Nv a) i).hi) /\ (0 : Nat) < UB a /\ UB a < (1073741824 : Nat)) /\
 ((mM a -> kV /\ (0 : Int) < (↑(Nv a).length : Int)) /\ (mM a -> (0 : Int) <= Io a /\ Io a < (↑(Nv a).length : Int))) /\ (JL a).fst.length = (Nv a).length /\ (∀ (i : Nat), i < (JL
 a).fst.length -> (El a i).st = (gD (Nv a) i).st /\ (El a i).lo = (gD (Nv a) i).lo /\ (El a i).hi = (gD (Nv a) i).hi) /\ (JL a).snd = bif mQ a then decide ((gD (Nv a) (Int.toNat (0 :
 Int))).st < (gD (Nv a) (Io a).toNat).st) else false) := by kernel_rfl
def My (a : GK) : Int := bif AQ a.g == 0 then (bif (JL a).2 then 0 else 2) else AQ a.g
def Yu (a : GK) : Bool := bif My a == 0 then !(BG (JL a).1).2 else false
def C_Knot : Ctr := { α := GK, xs := xGK, L := λ _ => [], val := λ a => .tup [.bool (Yu a), .int (My a)], keep := λ _ => [], pre := λ a => [a.g.length < 1073741824 /\ a.k.length < 1073741824] }
def CCA : Ann := ann 24 [(vL, C_Check.spec JM), (AIY, C_named.spec dGK), (Nw, C_isKnot.spec dGsK)]
def CIW (a : GK) : Prop := AN Try.prog CCA BOX (AF BOX) (C_Knot.xs a) (AC []) (C_Knot.val a) [] [] []
theorem CKK (a : GK) : (CIW a) = (((AE a.g.length λ (i : Nat) => gD a.g i).length = a.g.length /\ (∀ (i : Nat), i < (AE a.g.length λ (i : Nat) => gD a.g i).length -> (gD (AE a.g.length λ (i : Nat) => gD a.g
 i) i).st = (gD a.g i).st /\ (gD (AE a.g.length λ (i : Nat) => gD a.g i) i).lo = (gD a.g i).lo /\ (gD (AE a.g.length λ (i : Nat) => gD a.g i) i).hi = (gD a.g i).hi) /\ (AE a.g.length λ (i : Nat) => gD a.g i).length
 < 4611686018427387904 /\ True) /\ bif AQ (AE a.g.length λ (i : Nat) => gD a.g i) != 0 then Yu a = false /\ My a = AQ (AE a.g.length λ (i : Nat) => gD a.g i) else ((AE a.g.length λ (i : Nat) => gD a.g
 i).length = a.g.length /\ (∀ (i : Nat), i < (AE a.g.length λ (i : Nat) => gD a.g i).length -> (gD (AE a.g.length λ (i : Nat) => gD a.g i) i).st = (gD a.g i).st /\ (gD (AE a.g.length λ (i : Nat) => gD a.g i) i).lo =
 (gD a.g i).lo /\ (gD (AE a.g.length λ (i : Nat) => gD a.g i) i).hi = (gD a.g i).hi) /\ (AE a.k.length λ (i : Nat) => gD a.k i).length = a.k.length /\ (∀ (i : Nat), i < (AE a.k.length λ (i : Nat) => gD a.k i).length
 -> gD (AE a.k.length λ (i : Nat) => gD a.k i) i = gD a.k i) /\ (AE a.g.length λ (i : Nat) => gD a.g i).length < 1073741824 /\ (AE a.k.length λ (i : Nat) => gD a.k i).length < 1073741824) /\ bif !(JL (GK.mk (AE
 a.g.length λ (i : Nat) => gD a.g i) (AE a.k.length λ (i : Nat) => gD a.k i))).snd then Yu a = false /\ My a = 2 else ((AE (JL (GK.mk (AE a.g.length λ (i : Nat) => gD a.g i) (AE a.k.length λ (i : Nat) =>
 gD a.k i))).fst.length λ (i : Nat) => gD (JL (GK.mk (AE a.g.length λ (i : Nat) => gD a.g i) (AE a.k.length λ (i : Nat) => gD a.k i))).fst i).length = (JL (GK.mk (AE a.g.length λ (i : Nat) => gD a.g i) (AE
 a.k.length λ (i : Nat) => gD a.k i))).fst.length /\ (∀ (i : Nat), i < (AE (JL (GK.mk (AE a.g.length λ (i : Nat) => gD a.g i) (AE a.k.length λ (i : Nat) => gD a.k i))).fst.length λ (i : Nat) => gD (JL (GK.mk
 (AE a.g.length λ (i : Nat) => gD a.g i) (AE a.k.length λ (i : Nat) => gD a.k i))).fst i).length -> (gD (AE (JL (GK.mk (AE a.g.length λ (i : Nat) => gD a.g i) (AE a.k.length λ (i : Nat) => gD a.k
 i))).fst.length λ (i : Nat) => gD (JL (GK.mk (AE a.g.length λ (i : Nat) => gD a.g i) (AE a.k.length λ (i : Nat) => gD a.k i))).fst i) i).st = (gD (JL (GK.mk (AE a.g.length λ (i : Nat) => gD a.g i) (AE
 a.k.length λ (i : Nat) => gD a.k i))).fst i).st /\ (gD (AE (JL (GK.mk (AE a.g.length λ (i : Nat) => gD a.g i) (AE a.k.length λ (i : Nat) => gD a.k i))).fst.length λ (i : Nat) => gD (JL (GK.mk (AE a.g.length
 λ (i : Nat) => gD a.g i) (AE a.k.length λ (i : Nat) => gD a.k i))).fst i) i).lo = (gD (JL (GK.mk (AE a.g.length λ (i : Nat) => gD a.g i) (AE a.k.length λ (i : Nat) => gD a.k i))).fst i).lo /\ (gD (AE (JL
 (GK.mk (AE a.g.length λ (i : Nat) => gD a.g i) (AE a.k.length λ (i : Nat) => gD a.k i))).fst.length λ (i : Nat) => gD (JL (GK.mk (AE a.g.length λ (i : Nat) => gD a.g i) (AE a.k.length λ (i : Nat) => gD a.k
 i))).fst i) i).hi = (gD (JL (GK.mk (AE a.g.length λ (i : Nat) => gD a.g i) (AE a.k.length λ (i : Nat) => gD a.k i))).fst i).hi) /\ (AE (JL (GK.mk (AE a.g.length λ (i : Nat) => gD a.g i) (AE a.k.length λ (i
 : Nat) => gD a.k i))).fst.length λ (i : Nat) => gD (JL (GK.mk (AE a.g.length λ (i : Nat) => gD a.g i) (AE a.k.length λ (i : Nat) => gD a.k i))).fst i).length < 1073741824 /\ ∀ (g : Gau), List.Mem g (AE (JL
 (GK.mk (AE a.g.length λ (i : Nat) => gD a.g i) (AE a.k.length λ (i : Nat) => gD a.k i))).fst.length λ (i : Nat) => gD (JL (GK.mk (AE a.g.length λ (i : Nat) => gD a.g i) (AE a.k.length λ (i : Nat) => gD a.k
 i))).fst i) -> 0 <= g.st /\ g.st <= 2000 /\ 0 <= g.lo /\ g.lo <= g.hi /\ g.hi <= 200000) /\ Yu a = !(BG (AE (JL (GK.mk (AE a.g.length λ (i : Nat) => gD a.g i) (AE a.k.length λ (i : Nat) => gD a.k i))).fst.length fun
 (i : Nat) => gD (JL (GK.mk (AE a.g.length λ (i : Nat) => gD a.g i) (AE a.k.length λ (i : Nat) => gD a.k i))).fst i)).snd /\ My a = 0) := by kernel_rfl
theorem U1 : AG Try.prog Nw (C_isKnot.spec dGsK) := HR C_isKnot (λ _ => ann 12 [(AKJ, C_line.spec dGsK)]) [] [] BYC (λ _ => by kernel_rfl) (λ _ => AB BWU AD) (λ (s : List Gau) h => by
 show BOB s; rw [BXU]; simp only [CC, eq_self, implies_true, forall_const]; exact h) (λ _ => IN rfl rfl) _
theorem hGG (xs : List AVal) (a : GG) (h : dGG xs = some a) : xs = xGG a := by
 unfold dGG at h; split at h <;> cases h; rfl
theorem CUN : AG Try.prog XY COY := EL xGG hGG λ a _ => KZ (A := ann 10 [(Zu, X4)]) (ren := []) (fz := []) BZM (by kernel_rfl) (AB BKR AD) (by
 show CPF a; rw [CRZ])
theorem BYR : AG Try.prog AMU (C_sorted.spec BMQ) := HR C_sorted BLL [] [] BZI (λ _ => by kernel_rfl) (λ _ => AB CUN AD) (λ (s : List Gau) h => by
 show BNM s; rw [BZC]; simp only [CC, eq_self, implies_true, forall_const]
 obtain ⟨h1, h2⟩ : 0 < s.length /\ s.length < 1073741824 := h
 refine ⟨⟨s.length - 1, by rw [EV (by omega) (by omega)]; omega, by omega, rfl⟩, λ k ⟨hk1, hk2⟩ => ⟨λ hlt => ?_, λ hge => ?_⟩⟩
 ·obtain ⟨k, rfl⟩ : ∃ n, k = n + 1 := ⟨k - 1, by omega⟩
  have e : IntKind.i64.wrap (((k + 1 : Nat) : Int) - 1) = (k : Nat) := by rw [EV (by omega) (by omega)]; omega
  rw [e, Int.toNat_natCast]
  unfold srtK at hk2
  refine ⟨⟨⟨by omega, by omega⟩, by omega, by omega⟩, λ hc => ?_, λ hc => ⟨k, rfl, ⟨by omega, ?_⟩, by omega⟩⟩
  ·rw [hk2, decide_eq_true hc]; rfl
  ·rw [hk2, decide_eq_false hc]; rfl
 ·rw [hk2, show k = 0 by omega]; rfl) (λ _ => IN rfl rfl) _
theorem AID {a : GK} (hg : a.g.length < 1073741824) (h : Kl a = true) : 2 <= a.k.length /\ a.k.length <= 3 /\ ∀ x ∈ a.k, 0 <= x /\ x < a.g.length := by
 unfold Kl at h
 cases hc : BY a.k.length 2 3 with
 | false => rw [hc] at h; cases h
 | true =>
  rw [hc] at h
  have h : (a.k.all λ x => BY x 0 (wr (a.g.length - 1))) = true := h
  unfold BY at hc
  simp only [Bool.and_eq_true, decide_eq_true_eq] at hc
  refine ⟨by omega, by omega, λ x hx => ?_⟩
  have := List.all_eq_true.1 h x hx
  unfold BY wr at this
  rw [EV (by omega) (by omega)] at this
  simp only [Bool.and_eq_true, decide_eq_true_eq] at this
  omega
theorem CKF (a : GK) (h1 : a.g.length < 1073741824) (h2 : a.k.length < 1073741824) : BSZ a := by
 rw [CIG]; delta W2 Uk Sa F6 ZY Xt ABK ABO D6 W5 Fh Ey Gu Gv Ia Ig dD kV dR Fx mF aU lQ Ex Gn Et kU iW Du iI Il Dv Ez Ga UB Hz mQ mM Io El; simp only [CC, eq_self, implies_true, forall_const]
 have hk : ∀ {i : Nat}, Kl a = true -> i < a.k.length -> 0 <= gD a.k i /\ gD a.k i < a.g.length := λ h hi => (AID h1 h).2.2 _ (BM hi)
 have hl : ∀ i, ((a.k.take i).map λ i => gD a.g i.toNat).length <= a.k.length := λ i => by simp; omega
 have hnl : (Nv a).length = a.k.length := by unfold Nv; simp
 refine ⟨λ _ => by omega, λ hb => ?_, λ hb => ⟨⟨⟨default, ?_⟩, λ hn => ⟨λ hlt => ⟨⟨by omega, by omega⟩, ⟨hk hn (by omega), by omega, by omega, by omega, by omega, by omega⟩, ⟨1, [gD a.g (gD a.k 0).toNat]⟩, ⟨rfl, rfl, rfl, λ i hi => ?_⟩, ⟨hn, by show 0 < 1; omega, by show 1 <= _; omega, ?_⟩, by show a.k.length - 1 < _; omega⟩, λ hge => ?_⟩, λ x ⟨hn, x1, x2, x3⟩ => ⟨λ hlt => ⟨⟨by omega, by omega⟩, ⟨hk hn (by omega), by omega, λ h => (by cases h), ?_, ?_⟩, ⟨x.i + 1, x.l ++ [gD a.g (gD a.k x.i).toNat]⟩, ⟨by simp, (BF (by omega)).symm, by simp, BTF _ _⟩, ⟨hn, by show 0 < x.i + 1; omega, by show x.i + 1 <= _; omega, ?_⟩, by show a.k.length - (x.i + 1) < _; omega⟩, λ hge => ⟨default, ?_, hn⟩⟩⟩, λ hn => ?_⟩⟩
 ·have e : Kl a = false := by
   unfold Kl
   cases hc : BY a.k.length 2 3 with
   | false => rfl
   | true => rw [hc] at hb; simpa using hb
  have : JL a = ([], false) := by unfold JL; rw [e]; rfl
  rw [this]; exact ⟨rfl, rfl, rfl⟩
 ·unfold Kl
  cases hc : BY a.k.length 2 3 with
  | false => rw [hc] at hb; cases hb
  | true => rw [hc] at hb; simpa using hb
 ·have hi : i < 1 := hi
  rw [show i = 0 by omega]; exact ⟨rfl, rfl, rfl⟩
 ·show [gD a.g (gD a.k 0).toNat] = (a.k.take 1).map _
  rw [DF (by omega : 0 < a.k.length)]; rfl
 ·have := AID h1 hn; omega
 ·have := hl x.i; rw [<- x3] at this; omega
 ·have := hl x.i; rw [<- x3] at this; omega
 ·show x.l ++ _ = (a.k.take (x.i + 1)).map _
  rw [DF (by omega : x.i < a.k.length), List.map_append, x3]; rfl
 ·have : x.l = Nv a := by rw [x3, List.take_of_length_le (by omega)]; rfl
  rw [this]; exact ⟨rfl, Nat.le_refl _, λ _ _ => ⟨rfl, rfl, rfl⟩⟩
 ·have := AID h1 hn
  have e : JL a = (Nv a, nmB (Nv a)) := by unfold JL; rw [hn]; rfl
  rw [e, EV (by omega) (by omega)]
  refine ⟨⟨by omega, by omega⟩, ⟨λ _ => ⟨by omega, by omega⟩, λ _ => ⟨by omega, by omega⟩⟩, rfl, λ _ _ => ⟨rfl, rfl, rfl⟩, ?_⟩
  rw [show ((Nv a).length - 1 : Int).toNat = (Nv a).length - 1 by omega]; rfl
theorem BNQ : AG Try.prog AIY (C_named.spec dGK) := HR C_named BWA [] [] CCB (λ _ => by kernel_rfl) (λ _ => AB Bv (AB CWS (AB BYR AD))) (λ (a : GK) h => CKF a h.1 h.2) (λ _ => IN rfl rfl) _
theorem CIR {a : GK} (hg : ∀ g ∈ a.g, DJ g) (h1 : a.g.length < 1073741824) : (JL a).1.length < 1073741824 /\ ∀ g ∈ (JL a).1, DJ g := by
 unfold JL
 cases hc : Kl a with
 | false => exact ⟨by show 0 < _; omega, λ g hg => by cases hg⟩
 | true =>
  have := AID h1 hc
  refine ⟨by show (Nv a).length < _; unfold Nv; rw [List.length_map]; omega, λ g hgm => ?_⟩
  have hgm : g ∈ Nv a := hgm
  unfold Nv at hgm
  obtain ⟨x, hx, rfl⟩ := List.mem_map.1 hgm
  have := this.2.2 x hx
  exact hg _ (BM (by omega))
theorem Ci {g : List Gau} (h : AQ g = 0) : (1 <= g.length /\ g.length <= 24) /\ ∀ x ∈ g, DJ x := by
 unfold AQ at h
 cases h2 : BY g.length 1 24 with
 | false => rw [h2] at h; cases h
 | true =>
  rw [h2] at h
  cases h3 : g.all Ck with
  | false => rw [h3] at h; cases h
  | true =>
   unfold BY at h2
   simp only [Bool.and_eq_true, decide_eq_true_eq] at h2
   refine ⟨by omega, λ x hx => ?_⟩
   have := List.all_eq_true.1 h3 x hx
   unfold Ck BY at this
   simp only [Bool.and_eq_true, decide_eq_true_eq] at this
   unfold DJ; omega
theorem CKD : AG Try.prog BQI (C_Knot.spec dGK) := HR C_Knot (λ _ => CCA) [] [] CLQ (λ _ => by kernel_rfl) (λ _ => AB vN (AB BNQ (AB U1 AD))) (λ (a : GK) h => by
 show CIW a; rw [CKK]; simp only [CC, eq_self, implies_true, forall_const]
 obtain ⟨h1, h2⟩ : a.g.length < 1073741824 /\ a.k.length < 1073741824 := h
 refine ⟨by omega, λ hc => ?_, λ hc => ⟨⟨h1, h2⟩, λ hn => ?_, λ hn => ?_⟩⟩
 ·have e0 : (AQ a.g == 0) = false := by simpa using hc
  have e : My a = AQ a.g := by unfold My; rw [e0]; rfl
  have e2 : Yu a = false := by unfold Yu; rw [e, e0]; rfl
  exact ⟨e2, e⟩
 all_goals
  have c0 : AQ a.g = 0 := by simpa using hc
  have e0 : (AQ a.g == 0) = true := by simpa using hc
 ·have e : My a = 2 := by unfold My; rw [e0, show (JL a).2 = false from hn]; rfl
  have e2 : Yu a = false := by unfold Yu; rw [e]; rfl
  exact ⟨e2, e⟩
 ·have e : My a = 0 := by unfold My; rw [e0, show (JL a).2 = true from hn]; rfl
  have e2 : Yu a = !(BG (JL a).1).2 := by unfold Yu; rw [e]; rfl
  exact ⟨CIR (Ci c0).2 h1, e2, e⟩) (λ _ => IN rfl rfl) _
end Go.Bal
