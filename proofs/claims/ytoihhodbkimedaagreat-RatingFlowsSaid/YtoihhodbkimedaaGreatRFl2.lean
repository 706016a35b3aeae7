/- Package rating: the reference: gaugings of a part by rising stages; whether a line passes them. -/
import Derived.Test.YtoihhodbkimedaaGreatRFl1
set_option linter.unusedVariables false
set_option linter.unusedSimpArgs false
namespace Go.Bal
open Go Go.Sym Go.Proofs
def C_rSrt : Ctr := { α := List Gau, xs := λ l => [.d (AS l)], val := λ l => .d (AS (Jf l)), pre := λ l => [l.length < 1073741824 /\ True] }
def QJ (L : List Gau) (x : Gau) (i a j : Nat) : Gau := if j < i then (if j <= a then gD L j else gD L (j - 1)) else if a = i then x else gD L (j - 1)
def IA (l : List Gau) (i : Nat) : List Gau := Jf (l.take i)
def so3n (l : List Gau) : Shape := { α := One, dflt := default, T := λ _ => ⟨[(0, .d (AS l)), (3, .d Hr), (4, .int 0)], []⟩, inv := λ _ => True, meas := λ _ => l.length }
def so3o (l : List Gau) : Shape := { α := Nat, dflt := 0, T := λ i => ⟨[(0, .d (AS l)), (3, .own 301 3 0 i), (4, .int i)], [(301, .live (.row 3 i λ j => WG (gD (IA l i) j)))]⟩, inv := λ i => 1 <= i /\ i <= l.length, meas := λ i => l.length - i }
def so7o (l : List Gau) (m : Nat) : Shape := { α := NN, dflt := default, T := λ x => ⟨[(0, .d (AS l)), (3, .own 301 3 0 (x.a + 1)), (4, .int x.a), (5, .int x.b)], [(301, .live (.row 3 (x.a + 1) λ j => WG (QJ (IA l x.a) (gD l x.a) x.a x.b j)))]⟩, inv := λ x => l.length - x.a = m /\ x.a < l.length /\ x.b <= x.a /\ FV (gD l x.a) (IA l x.a) x.a = FV (gD l x.a) (IA l x.a) x.b, meas := λ x => x.b, first := [(301, 7096)] }
def CAK (l : List Gau) : Ann := { ann 55 [] with mt := λ id => id == 6, loops := λ id => if id = 3 then some [so3n l, so3o l] else none, inner := λ gs id => if id = 7 then some [so7o l (gs.getD 0 0)] else none }
def CCO (l : List Gau) : Prop := AN Try.prog (CAK l) BQE (AF BQE) (C_rSrt.xs l) (AC []) (C_rSrt.val l) [] [] [301]
abbrev YO (l : List Gau) : Prop := ∀ (i : Nat), i < l.length -> (gD l i).st = (gD l i).st /\ (gD l i).lo = (gD l i).lo /\ (gD l i).hi = (gD l i).hi
abbrev WL : Prop := (0 : Nat) = (0 : Nat)
abbrev AVC (l : List Gau) : Prop := (0 : Int) < (↑l.length : Int)
abbrev oK : Prop := (0 : Nat) < (1 : Nat)
abbrev AOP : Prop := (3 : Nat) = (3 : Nat)
abbrev AZN : Prop := (1 : Nat) <= (1 : Nat) /\ (oK -> AOP)
abbrev HF (a : NN) : Nat := a.a + (1 : Nat)
abbrev AWR (a : NN) : Prop := HF a = (1 : Nat)
abbrev oM (i : Nat) (a : NN) : Prop := i < HF a
abbrev qY (l : List Gau) (a : NN) (i : Nat) : Gau := QJ (IA l a.a) (gD l a.a) a.a a.b i
abbrev RM (l : List Gau) (a : NN) (i : Nat) : Int := (qY l a i).st
abbrev Sd (l : List Gau) : Gau := gD l (Int.toNat (0 : Int))
abbrev RG (l : List Gau) (a : NN) (i : Nat) : Int := (qY l a i).lo
abbrev RL (l : List Gau) (a : NN) (i : Nat) : Int := (qY l a i).hi
abbrev H3 (l : List Gau) (a : NN) : Nat := l.length - a.a
abbrev R4 (a : NN) (l : List Gau) : Prop := a.a < l.length /\ a.b <= a.a /\ FV (gD l a.a) (IA l a.a) a.a = FV (gD l a.a) (IA l a.a) a.b
abbrev Us (l : List Gau) (a : NN) : Prop := H3 l a = l.length /\ R4 a l
abbrev AEX (a : NN) : Bool := decide ((↑a.b : Int) > (0 : Int))
abbrev Tr (a : NN) : Prop := AEX a = true
abbrev XE (a : NN) : Int := IntKind.i64.wrap ((↑a.b : Int) - (1 : Int))
abbrev ACW (a : NN) : Prop := (0 : Int) <= XE a /\ XE a < (↑(HF a) : Int)
abbrev Tu (a : NN) : Nat := (0 : Nat) + (XE a).toNat
abbrev ABB (a : NN) (l : List Gau) : Prop := (0 : Int) <= (↑a.a : Int) /\ (↑a.a : Int) < (↑l.length : Int)
abbrev P8 (a : NN) (l : List Gau) : Prop := (Tr a -> ACW a) /\ (Tr a -> (Tu a).succ.le (HF a)) /\ (Tr a -> ABB a l)
abbrev Xw (l : List Gau) (a : NN) : Gau := QJ (IA l a.a) (gD l a.a) a.a a.b (Tu a)
abbrev D4 (l : List Gau) (a : NN) : Int := (Xw l a).st
abbrev V4 (a : NN) (l : List Gau) : Bool := bif AEX a then decide (D4 l a > (gD l a.a).st) else false
abbrev zN (a : NN) : Nat := (0 : Nat) + a.b
abbrev M0 (a : NN) : Prop := ((0 : Int) <= (↑a.b : Int) /\ (↑a.b : Int) < (↑(HF a) : Int)) /\ (zN a).succ.le (HF a)
abbrev W8 (a : NN) : Prop := ACW a /\ Tu a < HF a /\ M0 a
abbrev J9 (a : NN) (a1 : NN) : Prop := HF a = HF a1
abbrev LY (i : Nat) (a : NN) : Bool := decide (i = zN a)
abbrev X0 (l : List Gau) (a : NN) (a1 : NN) : Prop := l.length = l.length /\ YO l /\ WL /\ J9 a a1 /\ (↑a.a : Int) = (↑a1.a : Int) /\ (↑a.b : Int) = XE a1 /\ J9 a a1 /\ ∀ (i : Nat),
 oM i a -> (RM l a i = bif LY i a1 then D4 l a1 else RM l a1 i) /\ (RG l a i = bif LY i a1 then (Xw l a1).lo else RG l a1 i) /\ RL l a i = bif LY i
 a1 then (Xw l a1).hi else RL l a1 i
abbrev N6 (a : NN) (l : List Gau) : Prop := ABB a l /\ M0 a
abbrev F2 (a : Nat) (a1 : NN) : Prop := a = HF a1
abbrev ABI (l : List Gau) (a : Nat) (a1 : NN) : Prop := l.length = l.length /\ YO l /\ WL /\ F2 a a1 /\ (↑a : Int) = IntKind.i64.wrap ((↑a1.a : Int) + (1 : Int)) /\ F2 a a1 /\ ∀ (i : Nat), i < a
 -> ((gD (IA l a) i).st = bif LY i a1 then (gD l a1.a).st else RM l a1 i) /\ ((gD (IA l a) i).lo = bif LY i a1 then (gD l a1.a).lo else RG l a1 i) /\ (gD (IA l a) i).hi = bif LY i a1
 then (gD l a1.a).hi else RL l a1 i
abbrev Ww (a : Nat) (l : List Gau) : Prop := (1 : Nat) <= a /\ a <= l.length
abbrev ZB (l : List Gau) (a : Nat) : Nat := l.length - a
abbrev N2 (l : List Gau) : Prop := (Jf l).length = (0 : Nat)
abbrev P0 (a : Nat) (l : List Gau) : Prop := (↑a : Int) < (↑l.length : Int)
abbrev Uv (a : Nat) : Nat := a + (1 : Nat)
abbrev ADI (a : NN) (a1 : Nat) : Prop := HF a = Uv a1
abbrev Ra (l : List Gau) (a : NN) (a1 : Nat) : Prop := H3 l a = ZB l a1 /\ R4 a l
abbrev U8 (a : Nat) : Nat := (0 : Nat) + a
abbrev Ri (l : List Gau) (a : Nat) (j : Nat) : Gau := gD (IA l a) (U8 j)
theorem CNH (l : List Gau) : (CCO l) = ((∃ (a : One), (l.length = l.length /\ YO l /\ WL /\ (∀ (i : Nat), i < (0 : Nat) -> false = false) /\ Int.ofNat (0 : Nat) = Int.ofNat (0 : Nat)) /\ True) /\ (∀ (a :
 One), True -> bif decide (AVC l) then (((0 : Int) <= (0 : Int) /\ AVC l) /\ (True /\ ((0 : Nat) < (0 : Nat) -> (0 : Nat) = (3 : Nat))) /\ AZN /\ (true = true -> oK) /\ (1 : Nat) <= (9223372036854775807 : Nat) /\
 (24 : Nat) <= (140737488355328 : Nat)) /\ (∃ (a : NN), (l.length = l.length /\ YO l /\ WL /\ AWR a /\ (↑a.a : Int) = (0 : Int) /\ (↑a.b : Int) = (↑(0 : Nat) : Int) /\ AWR a /\ ∀ (i : Nat), oM i a ->
 RM l a i = (Sd l).st /\ RG l a i = (Sd l).lo /\ RL l a i = (Sd l).hi) /\ Us l a) /\ ∀ (a : NN), Us l a -> P8 a l /\ bif V4 a l then W8 a /\ ∃ (a_2 :
 NN), X0 l a_2 a /\ Us l a_2 /\ a_2.b < a.b else N6 a l /\ ∃ (a_2 : Nat), ABI l a_2 a /\ Ww a_2 l /\ ZB l a_2 < l.length else N2 l /\ N2 l) /\ ∀ (a : Nat), Ww a l ->
 bif decide (P0 a l) then (((0 : Int) <= (↑a : Int) /\ P0 a l) /\ (a = a /\ ((0 : Nat) < a -> AOP)) /\ AZN /\ (false = true -> oK) /\ Uv a <= (9223372036854775807 : Nat) /\ Uv a * (24 :
 Nat) <= (140737488355328 : Nat)) /\ (∃ (a_2 : NN), (l.length = l.length /\ YO l /\ WL /\ ADI a_2 a /\ (↑a_2.a : Int) = (↑a : Int) /\ (↑a_2.b : Int) = (↑a : Int) /\ ADI a_2 a /\ ∀ (i : Nat), oM i a_2
 -> (RM l a_2 i = bif decide (i < a) then (gD (IA l a) i).st else (gD l a).st) /\ (RG l a_2 i = bif decide (i < a) then (gD (IA l a) i).lo else (gD l a).lo) /\ RL l a_2 i = bif decide (i < a) then
 (gD (IA l a) i).hi else (gD l a).hi) /\ Ra l a_2 a) /\ ∀ (a_2 : NN), Ra l a_2 a -> P8 a_2 l /\ bif V4 a_2 l then W8 a_2 /\ ∃ (a_4 : NN), X0 l a_4 a_2 /\ Ra l a_4 a /\ a_4.b <
 a_2.b else N6 a_2 l /\ ∃ (a_4 : Nat), ABI l a_4 a_2 /\ Ww a_4 l /\ ZB l a_4 < ZB l a else (Jf l).length = a /\ U8 a <= a /\ ∀ (j : Nat), j < (Jf l).length -> (gD (Jf l) j).st =
 (Ri l a j).st /\ (gD (Jf l) j).lo = (Ri l a j).lo /\ (gD (Jf l) j).hi = (Ri l a j).hi) := by kernel_rfl
def C_rPb : Ctr := { α := List Gau, xs := λ l => [.d (AS l)], val := λ l => .bool (HV l), pre := λ l => [l.length < 1073741824 /\ (∀ g ∈ l, DJ g) /\ jU l] }
structure IKM where
 i : Nat
 k : Nat
 m : Nat
 deriving Inhabited
def pb2 (l : List Gau) : Shape := { α := Nat, dflt := 0, T := λ i => ⟨[(0, .d (AS l)), (3, .int i)], []⟩, inv := λ i => i <= l.length /\ BUN l i 0 0, meas := λ i => l.length - i }
def pb5 (l : List Gau) (n : Nat) : Shape := { α := NN, dflt := default, T := λ x => ⟨[(0, .d (AS l)), (3, .int x.a), (4, .int x.b)], []⟩, inv := λ x => l.length - x.a = n /\ x.a < l.length /\ x.a <= x.b /\ x.b <= l.length /\ BUN l x.a x.b 0, meas := λ x => l.length - x.b }
def pb8 (l : List Gau) (n p : Nat) : Shape := { α := IKM, dflt := default, T := λ x => ⟨[(0, .d (AS l)), (3, .int x.i), (4, .int x.k), (5, .int x.m)], []⟩, inv := λ x => (l.length - x.i = n /\ l.length - x.k = p) /\ x.i <= x.k /\ x.k < l.length /\ x.k <= x.m /\ x.m <= l.length /\ BUN l x.i x.k x.m, meas := λ x => l.length - x.m }
def CQC (l : List Gau) : Ann := { ann 40 [(BQW, CFU)] with loops := λ id => if id = 2 then some [pb2 l] else none, inner := λ gs id => if id = 5 then some [pb5 l (gs.getD 0 0)] else if id = 8 then some [pb8 l (gs.getD 1 0) (gs.getD 0 0)] else none }
def COX (l : List Gau) : Prop := AN Try.prog (CQC l) BEF (AF BEF) (C_rPb.xs l) (AC []) (C_rPb.val l) [] [] []
abbrev Ho (l : List Gau) : Prop := ∀ (i : Nat), i < l.length -> (gD l i).st = (gD l i).st /\ (gD l i).lo = (gD l i).lo /\ (gD l i).hi = (gD l i).hi
abbrev AJS (l : List Gau) (a : Nat) (b : Nat) (c : Nat) : Prop := KX (gD l a) (gD l b) (gD l c) = true
abbrev AJH (a : Nat) (l : List Gau) : Prop := a <= l.length /\ ∀ (a_1 b c : Nat), a_1 <= b -> b <= c -> c < l.length -> a_1 < a ∨ a_1 = a /\ (b < 0 ∨ b = 0 /\ c < 0) -> AJS l a_1 b c
abbrev uQ (l : List Gau) (a : Nat) : Nat := l.length - a
abbrev AHO (l : List Gau) (a : NN) (a1 : Nat) : Prop := l.length - a.a = uQ l a1 /\ a.a < l.length /\ a.a <= a.b /\ a.b <= l.length /\ ∀ (a_1 b c : Nat), a_1 <= b -> b <= c -> c < l.length -> a_1 < a.a ∨ a_1 = a.a /\ (b <
 a.b ∨ b = a.b /\ c < 0) -> AJS l a_1 b c
abbrev AGZ (l : List Gau) (a : NN) : Nat := l.length - a.b
abbrev AGV (l : List Gau) (a : IKM) (a1 : Nat) (a2 : NN) : Prop := (l.length - a.i = uQ l a1 /\ l.length - a.k = AGZ l a2) /\ a.i <= a.k /\ a.k < l.length /\ a.k <= a.m /\ a.m <= l.length /\ ∀ (a_1 b c : Nat), a_1 <=
 b -> b <= c -> c < l.length -> a_1 < a.i ∨ a_1 = a.i /\ (b < a.k ∨ b = a.k /\ c < a.m) -> AJS l a_1 b c
abbrev BEJ (a : IKM) (l : List Gau) : Prop := (↑a.m : Int) < (↑l.length : Int)
abbrev BKC (l : List Gau) (a : IKM) : Nat := l.length - a.m
theorem CRJ (l : List Gau) : (COX l) = ((∃ (a : Nat), (l.length = l.length /\ Ho l /\ (↑a : Int) = 0) /\ AJH a l) /\ ∀ (a : Nat), AJH a l -> bif decide ((↑a : Int) < (↑l.length : Int)) then (∃ (a_2 : NN),
 (l.length = l.length /\ Ho l /\ (↑a_2.a : Int) = (↑a : Int) /\ (↑a_2.b : Int) = (↑a : Int)) /\ AHO l a_2 a) /\ ∀ (a_2 : NN), AHO l a_2 a -> bif decide ((↑a_2.b : Int) < (↑l.length : Int)) then (∃ (a_4 : IKM),
 (l.length = l.length /\ Ho l /\ (↑a_4.i : Int) = (↑a_2.a : Int) /\ (↑a_4.k : Int) = (↑a_2.b : Int) /\ (↑a_4.m : Int) = (↑a_2.b : Int)) /\ AGV l a_4 a a_2) /\ ∀ (a_4 : IKM), AGV l a_4 a a_2 -> bif decide (BEJ
 a_4 l) then ((0 <= (↑a_4.i : Int) /\ (↑a_4.i : Int) < (↑l.length : Int)) /\ (0 <= (↑a_4.k : Int) /\ (↑a_4.k : Int) < (↑l.length : Int)) /\ (0 <= (↑a_4.m : Int) /\ BEJ a_4 l) /\ (0 <= (gD l a_4.i).st /\ (gD l a_4.i).st <= 2000 /\
 0 <= (gD l a_4.i).lo /\ (gD l a_4.i).lo <= (gD l a_4.i).hi /\ (gD l a_4.i).hi <= 200000) /\ (0 <= (gD l a_4.k).st /\ (gD l a_4.k).st <= 2000 /\ 0 <= (gD l a_4.k).lo /\ (gD l a_4.k).lo <= (gD l a_4.k).hi /\ (gD l a_4.k).hi <= 200000) /\
 0 <= (gD l a_4.m).st /\ (gD l a_4.m).st <= 2000 /\ 0 <= (gD l a_4.m).lo /\ (gD l a_4.m).lo <= (gD l a_4.m).hi /\ (gD l a_4.m).hi <= 200000) /\ bif !KX (gD l a_4.i) (gD l a_4.k) (gD l a_4.m) then HV l = false else ∃ (a_6 :
 IKM), (l.length = l.length /\ Ho l /\ (↑a_6.i : Int) = (↑a_4.i : Int) /\ (↑a_6.k : Int) = (↑a_4.k : Int) /\ (↑a_6.m : Int) = IntKind.i64.wrap ((↑a_4.m : Int) + 1)) /\ AGV l a_6 a a_2 /\ BKC l a_6 < BKC l a_4
 else ∃ (a_6 : NN), (l.length = l.length /\ Ho l /\ (↑a_6.a : Int) = (↑a_4.i : Int) /\ (↑a_6.b : Int) = IntKind.i64.wrap ((↑a_4.k : Int) + 1)) /\ AHO l a_6 a /\ AGZ l a_6 < AGZ l a_2 else ∃ (a_4 : Nat),
 (l.length = l.length /\ Ho l /\ (↑a_4 : Int) = IntKind.i64.wrap ((↑a_2.a : Int) + 1)) /\ AJH a_4 l /\ uQ l a_4 < uQ l a else HV l = true) := by kernel_rfl
structure GBI where
 g : List Gau
 b : List Int
 p : Int
def dGBI : List AVal -> Heap -> Option (GBI × List (Nat × Nat) × List Nat)
 | [x, y, .d t], H => match Bc x H, XT y H with
  | some (l, f), some (m, e) => some (⟨l, m, DH t⟩, [], f ++ e)
  | _, _ => none
 | _, _ => none
def C_rIns : Ctr := { α := GBI, xs := λ a => [.d (AS a.g), .d (BC a.b), .int a.p], val := λ a => .d (AS (DP a.g a.b a.p)), pre := λ a => [a.g.length < 1073741824 /\ a.b.length < 1073741824] }
structure KG where
 k : Nat
 l : List Gau
 deriving Inhabited
def CPX (l : List Gau) : AObj := .row 3 l.length λ i => WG (gD l i)
def UV (a : GBI) (k : Nat) : List Gau := (a.g.take k).filter λ g => (ET a.b g.st : Int) == a.p
def inSl (a : GBI) (v : AVal) (k : Nat) : List (Nat × AVal) := [(0, .d (AS a.g)), (1, .d (BC a.b)), (2, .int a.p), (7, v), (8, .int k)]
def in3n (a : GBI) : Shape := { α := Nat, dflt := 0, T := λ k => ⟨inSl a (.d Hr) k, []⟩, inv := λ k => k <= a.g.length /\ UV a k = [], meas := λ k => a.g.length - k }
def in3o (a : GBI) : Shape := { α := KG, dflt := default, T := λ x => ⟨inSl a (.own 301 3 0 x.l.length) x.k, [(301, .live (CPX x.l))]⟩, inv := λ x => x.k <= a.g.length /\ UV a x.k = x.l, meas := λ x => a.g.length - x.k }
def in4n (a : GBI) (m : Nat) : Shape := { α := Nat, dflt := 0, T := λ k => ⟨inSl a (.d Hr) k, []⟩, inv := λ k => k < a.g.length /\ a.g.length - k = m /\ UV a (k + 1) = [], meas := λ _ => 0 }
def in4o (a : GBI) (m : Nat) (f : List (Nat × Nat)) : Shape := { α := KG, dflt := default, T := λ x => ⟨inSl a (.own 301 3 0 x.l.length) x.k, [(301, .live (CPX x.l))]⟩, inv := λ x => x.k < a.g.length /\ a.g.length - x.k = m /\ UV a (x.k + 1) = x.l, meas := λ _ => 0, first := f }
def CFA (a : GBI) : Ann := { ann 33 [(Xc, C_rPart.spec dIX), (BPI, C_rSrt.spec JM)] with mt := λ id => id == 6, loops := λ id => if id = 3 then some [in3n a, in3o a] else none, cutIn := λ gs id => if id = 4 then some [in4n a (gs.getD 0 0), in4o a (gs.getD 0 0) [(301, 7096)], in4o a (gs.getD 0 0) []] else none }
def CHJ (a : GBI) : Prop := AN Try.prog (CFA a) BQF (AF BQF) (C_rIns.xs a) (AC []) (C_rIns.val a) [] [] [301]
abbrev QG (a : GBI) : Prop := a.g.length = a.g.length
abbrev ANF (a : GBI) (i : Nat) : Prop := (gD a.g i).st = (gD a.g i).st
abbrev PM (a : GBI) : Prop := ∀ (i : Nat), i < a.g.length -> ANF a i /\ (gD a.g i).lo = (gD a.g i).lo /\ (gD a.g i).hi = (gD a.g i).hi
abbrev PC (a : GBI) : Prop := a.b.length = a.b.length
abbrev PF (a : GBI) : Prop := ∀ (i : Nat), i < a.b.length -> gD a.b i = gD a.b i
abbrev JK : Prop := 0 = 0
abbrev wU : Prop := ∀ (i : Nat), i < 0 -> false = false
abbrev Ov (a : Nat) (a1 : GBI) : Prop := a <= a1.g.length /\ UV a1 a = []
abbrev AQB (a : Nat) (a1 : GBI) : Prop := (↑a : Int) < (↑a1.g.length : Int)
abbrev AOB (a : Nat) (a1 : GBI) : Prop := 0 <= (↑a : Int) /\ AQB a a1
abbrev Ce (a : GBI) : List Int := AE a.b.length λ (i : Nat) => gD a.b i
abbrev Vx (a : GBI) : Nat := (Ce a).length
abbrev ADQ (a : GBI) : Prop := Vx a = a.b.length
abbrev A1 (a : GBI) : Prop := ∀ (i : Nat), i < Vx a -> gD (Ce a) i = gD a.b i
abbrev AED (a : GBI) : Prop := Vx a < 1073741824 /\ True
abbrev Qp : Prop := 0 < 1
abbrev ADZ : Prop := 3 = 3
abbrev Z6 : Prop := 1 <= 1 /\ (Qp -> ADZ)
abbrev W3 (a : KG) : Prop := a.l.length = 1
abbrev IQ (a : GBI) (a1 : KG) : Nat := a.g.length - a1.k
abbrev IV (a : GBI) (a1 : Nat) : Nat := a.g.length - a1
abbrev L7 (a : GBI) (a1 : KG) : Prop := UV a (a1.k + 1) = a1.l
abbrev L3 (a : KG) (a1 : GBI) (a2 : Nat) : Prop := a.k < a1.g.length /\ IQ a1 a = IV a1 a2 /\ L7 a1 a
abbrev ABU (a : GBI) (a1 : Nat) : Prop := UV a (a1 + 1) = []
abbrev ABC (a : Nat) (a1 : GBI) (a2 : Nat) : Prop := a < a1.g.length /\ IV a1 a = IV a1 a2 /\ ABU a1 a
abbrev G7 (a : GBI) (a1 : Nat) (a2 : Nat) : Prop := QG a /\ PM a /\ PC a /\ PF a /\ a.p = a.p /\ JK /\ wU /\ (↑a1 : Int) = IntKind.i64.wrap ((↑a2 : Int) + 1)
abbrev Xn (a : KG) (a1 : KG) : Prop := a.l.length = a1.l.length
abbrev X5 (a : KG) (a1 : KG) : Prop := Xn a a1 /\ ∀ (i : Nat), i < a.l.length -> (gD a.l i).st = (gD a1.l i).st /\ (gD a.l i).lo = (gD a1.l i).lo /\ (gD a.l i).hi = (gD a1.l i).hi
abbrev yD (a : GBI) (a1 : KG) (a2 : KG) : Prop := QG a /\ PM a /\ PC a /\ PF a /\ a.p = a.p /\ JK /\ Xn a1 a2 /\ (↑a1.k : Int) = IntKind.i64.wrap ((↑a2.k : Int) + 1) /\ X5 a1 a2
abbrev Tl (a : KG) (a1 : GBI) : Prop := a.k <= a1.g.length /\ UV a1 a.k = a.l
abbrev ADL (a : GBI) (a1 : Nat) : Prop := ∀ (a_1 : KG), L3 a_1 a a1 -> ∃ (a_3 : KG), yD a a_3 a_1 /\ Tl a_3 a /\ IQ a a_3 < IV a a1
abbrev AAT (i : Nat) (a : GBI) : Prop := i < (DP a.g a.b a.p).length
abbrev Yf (a : GBI) (i : Nat) : Gau := gD (DP a.g a.b a.p) i
abbrev zB (a : GBI) (i : Nat) : Int := (Yf a i).st
abbrev Si (i : Nat) : Gau := gD (Jf (AE 0 λ (i : Nat) => TJ default)) i
abbrev AAG (a : GBI) (i : Nat) : Int := (Yf a i).lo
abbrev O0 (a : GBI) (i : Nat) : Int := (Yf a i).hi
abbrev A5 (a : KG) (a1 : GBI) : Prop := (↑a.k : Int) < (↑a1.g.length : Int)
abbrev AEY (a : KG) (a1 : GBI) : Prop := 0 <= (↑a.k : Int) /\ A5 a a1
abbrev Ro (a : KG) : Nat := a.l.length + 1
abbrev ABT (a : KG) (a1 : KG) : Prop := a.l.length = Ro a1
abbrev C0 (a : KG) (a1 : KG) : Prop := (↑a.k : Int) = (↑a1.k : Int)
abbrev Sh (i : Nat) (a : KG) : Bool := decide (i < a.l.length)
abbrev Uq (a : KG) (a1 : GBI) (a2 : KG) : Prop := a.k < a1.g.length /\ IQ a1 a = IQ a1 a2 /\ L7 a1 a
abbrev S6 (a : GBI) (a1 : KG) : Prop := ∀ (a_1 : KG), Uq a_1 a a1 -> ∃ (a_3 : KG), yD a a_3 a_1 /\ Tl a_3 a /\ IQ a a_3 < IQ a a1
abbrev Wk (a : KG) : List Gau := AE a.l.length λ (i : Nat) => gD a.l i
abbrev Xo (a : KG) : Nat := (Wk a).length
abbrev Un (a : KG) (j : Nat) : Gau := gD (Wk a) j
abbrev Yc (a : KG) (j : Nat) : Gau := gD a.l (0 + j)
abbrev zK (a : KG) : List Gau := Jf (Wk a)
abbrev Sm (a : KG) (i : Nat) : Gau := gD (zK a) i
theorem CKV (a : GBI) : (CHJ a) = ((∃ (a_1 : Nat), (QG a /\ PM a /\ PC a /\ PF a /\ a.p = a.p /\ JK /\ wU /\ (↑a_1 : Int) = 0) /\ Ov a_1 a) /\ (∀ (a_1 : Nat), Ov a_1 a -> bif
 decide (AQB a_1 a) then ((AOB a_1 a /\ ADQ a /\ A1 a /\ ANF a a_1 /\ AED a) /\ bif (↑(ET (Ce a) (gD a.g a_1).st) : Int) == a.p then (AOB a_1 a /\ (True /\ (0 < 0 -> 0 = 3)) /\
 Z6 /\ (true = true -> Qp) /\ 1 <= 9223372036854775807 /\ 24 <= 140737488355328) /\ ∃ (a_3 : KG), (QG a /\ PM a /\ PC a /\ PF a /\ a.p = a.p /\ JK /\ W3 a_3 /\ (↑a_3.k : Int) = (↑a_1 :
 Int) /\ W3 a_3 /\ ∀ (i : Nat), i < a_3.l.length -> (gD a_3.l i).st = (gD a.g a_1).st /\ (gD a_3.l i).lo = (gD a.g a_1).lo /\ (gD a_3.l i).hi = (gD a.g a_1).hi) /\ L3 a_3 a a_1 else ∃ (a_3 : Nat), (QG a /\
 PM a /\ PC a /\ PF a /\ a.p = a.p /\ JK /\ wU /\ (↑a_3 : Int) = (↑a_1 : Int)) /\ ABC a_3 a a_1) /\ (∀ (a_3 : Nat), ABC a_3 a a_1 -> ∃ (a_5 : Nat), G7 a a_5 a_3 /\ Ov a_5 a /\
 IV a a_5 < IV a a_1) /\ ADL a a_1 /\ ADL a a_1 else (JK /\ JK /\ 0 < 1073741824 /\ True) /\ (DP a.g a.b a.p).length = 0 /\ ∀ (i : Nat), AAT i a -> zB a i = (Si i).st /\
 AAG a i = (Si i).lo /\ O0 a i = (Si i).hi) /\ ∀ (a_1 : KG), Tl a_1 a -> bif decide (A5 a_1 a) then ((AEY a_1 a /\ ADQ a /\ A1 a /\ (gD a.g a_1.k).st = (gD a.g
 a_1.k).st /\ AED a) /\ bif (↑(ET (Ce a) (gD a.g a_1.k).st) : Int) == a.p then (AEY a_1 a /\ (a_1.l.length = a_1.l.length /\ (0 < a_1.l.length -> ADZ)) /\ Z6 /\ (false = true -> Qp) /\
 Ro a_1 <= 9223372036854775807 /\ Ro a_1 * 24 <= 140737488355328) /\ ∃ (a_3 : KG), (QG a /\ PM a /\ PC a /\ PF a /\ a.p = a.p /\ JK /\ ABT a_3 a_1 /\ C0 a_3 a_1 /\ ABT
 a_3 a_1 /\ ∀ (i : Nat), i < a_3.l.length -> ((gD a_3.l i).st = bif Sh i a_1 then (gD a_1.l i).st else (gD a.g a_1.k).st) /\ ((gD a_3.l i).lo = bif Sh i a_1 then (gD a_1.l i).lo else (gD a.g a_1.k).lo) /\ (gD
 a_3.l i).hi = bif Sh i a_1 then (gD a_1.l i).hi else (gD a.g a_1.k).hi) /\ Uq a_3 a a_1 else ∃ (a_3 : KG), (QG a /\ PM a /\ PC a /\ PF a /\ a.p = a.p /\ JK /\ Xn a_3 a_1 /\
 C0 a_3 a_1 /\ X5 a_3 a_1) /\ Uq a_3 a a_1) /\ (∀ (a_3 : Nat), a_3 < a.g.length /\ IV a a_3 = IQ a a_1 /\ ABU a a_3 -> ∃ (a_5 : Nat), G7 a a_5 a_3 /\ Ov a_5 a /\ IV a
 a_5 < IQ a a_1) /\ S6 a a_1 /\ S6 a a_1 else (Xo a_1 = a_1.l.length /\ 0 + a_1.l.length <= a_1.l.length /\ (∀ (j : Nat), j < Xo a_1 -> (Un a_1 j).st = (Yc a_1 j).st /\ (Un
 a_1 j).lo = (Yc a_1 j).lo /\ (Un a_1 j).hi = (Yc a_1 j).hi) /\ Xo a_1 < 1073741824 /\ True) /\ (DP a.g a.b a.p).length = (zK a_1).length /\ ∀ (i : Nat), AAT i a -> zB a i =
 (Sm a_1 i).st /\ AAG a i = (Sm a_1 i).lo /\ O0 a i = (Sm a_1 i).hi) := by kernel_rfl
theorem CFN {l : List Gau} {i : Nat} (h : i <= l.length) : (IA l i).length = i := by
 unfold IA
 rw [(RP _).length_eq, List.length_take]; omega
theorem BBG {l : List Gau} {i : Nat} (h : i < l.length) : IA l (i + 1) = yN (IA l i) (gD l i) := by
 unfold IA Jf
 rw [DF h, List.foldl_append]; rfl
theorem BUK {L : List Gau} {x : Gau} {b : Nat} (hb : 0 < b) (h : (gD L (b - 1)).st > x.st) : FV x L b = FV x L (b - 1) := by
 obtain ⟨n, rfl⟩ : ∃ n, b = n + 1 := ⟨b - 1, by omega⟩
 rw [Nat.add_sub_cancel] at h ⊢
 show (bif decide ((gD L n).st > x.st) then FV x L n else n + 1) = _
 rw [decide_eq_true h]; rfl
theorem BBY {L : List Gau} {x : Gau} {b : Nat} (h : 0 < b -> ¬(gD L (b - 1)).st > x.st) : FV x L b = b := by
 cases b with
 | zero => rfl
 | succ n =>
  have h := h (by omega)
  rw [Nat.add_sub_cancel] at h
  show (bif decide ((gD L n).st > x.st) then FV x L n else n + 1) = _
  rw [decide_eq_false h]; rfl
theorem CCS (L : List Gau) (x : Gau) (i j : Nat) : QJ L x i i j = bif decide (j < i) then gD L j else x := by
 unfold QJ
 by_cases h : j < i
 ·rw [if_pos h, if_pos (by omega), decide_eq_true h]; rfl
 ·rw [if_neg h, if_pos rfl, decide_eq_false h]; rfl
theorem BCX {L : List Gau} {x : Gau} {i b : Nat} (hb : 0 < b) (h : b <= i) : QJ L x i b (b - 1) = gD L (b - 1) := by
 unfold QJ; rw [if_pos (by omega), if_pos (by omega)]
theorem BTQ {L : List Gau} {x : Gau} {i b j : Nat} (hb : 0 < b) (h : b <= i) (hj : j <= i) : QJ L x i (b - 1) j = bif decide (j = b) then QJ L x i b (b - 1) else QJ L x i b j := by
 rw [BCX hb h]
 by_cases e : j = b
 ·rw [decide_eq_true e, e]
  unfold QJ
  by_cases h2 : b < i
  ·rw [if_pos h2, if_neg (by omega)]; rfl
  ·rw [if_neg h2, if_neg (by omega)]; rfl
 ·rw [decide_eq_false e]
  unfold QJ
  by_cases h2 : j < i
  ·rw [if_pos h2]
   by_cases h3 : j <= b - 1
   ·rw [if_pos h3]; show _ = if j < i then (if j <= b then gD L j else gD L (j - 1)) else _; rw [if_pos h2, if_pos (by omega)]
   ·rw [if_neg h3]; show _ = if j < i then (if j <= b then gD L j else gD L (j - 1)) else _; rw [if_pos h2, if_neg (by omega)]
  ·rw [if_neg h2, if_neg (by omega)]
   show _ = if j < i then (if j <= b then gD L j else gD L (j - 1)) else if b = i then x else gD L (j - 1)
   rw [if_neg h2, if_neg (by omega)]
theorem BMK {L : List Gau} {x : Gau} {i b j : Nat} (h : b <= i) (hL : L.length = i) (hp : FV x L i = b) (hj : j <= i) : gD (yN L x) j = bif decide (j = b) then x else QJ L x i b j := by
 rw [BEK, hL, hp]
 by_cases e : j = b
 ·rw [decide_eq_true e, if_neg (by omega), if_pos e]; rfl
 ·rw [decide_eq_false e]
  show _ = QJ L x i b j
  unfold QJ
  by_cases h2 : j < b
  ·rw [if_pos h2, if_pos (by omega), if_pos (by omega)]
  ·rw [if_neg h2, if_neg e]
   by_cases h3 : j < i
   ·rw [if_pos h3, if_neg (by omega)]
   ·rw [if_neg h3, if_neg (by omega)]
theorem CRW (l : List Gau) (h : l.length < 1073741824) : CCO l := by
 rw [CNH]; delta YO WL AVC oK AOP AZN HF AWR oM qY RM Sd RG RL H3 R4 Us AEX Tr XE ACW Tu ABB P8 Xw D4 V4 zN M0 W8 J9 LY X0 N6 F2 ABI Ww ZB N2 P0 Uv ADI Ra U8 Ri; simp only [CC, eq_self, implies_true, forall_const]
 have wb' : ∀ {b : Nat}, b < 1073741824 -> (b : Int) > 0 -> IntKind.i64.wrap ((b : Int) - 1) = ((b - 1 : Nat) : Int) := λ {b} hq hb => by
  rw [EV (by omega) (by omega)]; omega
 have pl : ∀ i, i < l.length -> (IA l i).length = i := λ i hi => CFN (by omega)
 have gt : ∀ {x : NN}, x.a < l.length -> x.b <= x.a -> (bif decide ((x.b : Int) > 0) then decide ((QJ (IA l x.a) (gD l x.a) x.a x.b (IntKind.i64.wrap ((x.b : Int) - 1)).toNat).st > (gD l x.a).st) else false) = true -> 0 < x.b /\ (gD (IA l x.a) (x.b - 1)).st > (gD l x.a).st := λ {x} h1 h2 hc => by
  by_cases hb : (x.b : Int) > 0
  ·rw [decide_eq_true hb, wb' (by omega) hb, Int.toNat_natCast, BCX (by omega) h2] at hc
   exact ⟨by omega, of_decide_eq_true hc⟩
  ·rw [decide_eq_false hb] at hc; cases hc
 have lt : ∀ {x : NN}, x.a < l.length -> x.b <= x.a -> 0 < x.b -> (bif decide ((x.b : Int) > 0) then decide ((QJ (IA l x.a) (gD l x.a) x.a x.b (IntKind.i64.wrap ((x.b : Int) - 1)).toNat).st > (gD l x.a).st) else false) = false -> ¬(gD (IA l x.a) (x.b - 1)).st > (gD l x.a).st := λ {x} h1 h2 hb hc => by
  have hb' : (x.b : Int) > 0 := by omega
  rw [decide_eq_true hb', wb' (by omega) hb', Int.toNat_natCast, BCX hb h2] at hc
  exact of_decide_eq_false hc
 refine ⟨⟨default, trivial⟩, ⟨λ hlt => ⟨⟨⟨by omega, by omega⟩, by omega, by omega, by omega, by omega, by omega⟩, ⟨⟨0, 0⟩, ⟨rfl, rfl, rfl, rfl, λ j hj => ?_⟩, rfl, by show 0 < l.length; omega, Nat.le_refl _, rfl⟩, λ x ⟨hx1, hx2, hx3, hx4⟩ => ?_⟩, λ hge => ?_⟩, λ i ⟨i1, i2⟩ => ⟨λ hlt => ⟨⟨⟨by omega, by omega⟩, by omega, λ h => (by cases h), by omega, by omega⟩, ⟨⟨i, i⟩, ⟨rfl, rfl, rfl, rfl, λ j hj => ?_⟩, rfl, by show i < l.length; omega, Nat.le_refl _, rfl⟩, λ x ⟨hx1, hx2, hx3, hx4⟩ => ?_⟩, λ hge => ?_⟩⟩
 ·have hj : j < 0 + 1 := hj
  have e : QJ (IA l 0) (gD l 0) 0 0 j = gD l 0 := by
   unfold QJ; rw [if_neg (by omega), if_pos rfl]
  rw [e]; exact ⟨rfl, rfl, rfl⟩
 ·have wb : (x.b : Int) > 0 -> IntKind.i64.wrap ((x.b : Int) - 1) = ((x.b - 1 : Nat) : Int) := wb' (by omega)
  refine ⟨⟨λ hb => ⟨by rw [wb hb]; omega, by rw [wb hb]; omega⟩, λ hb => by rw [wb hb, Int.toNat_natCast]; omega, λ _ => ⟨by omega, by omega⟩⟩, λ hc => ?_, λ hc => ?_⟩
  ·obtain ⟨hb, hg⟩ := gt hx2 hx3 hc
   refine ⟨⟨⟨by rw [wb (by omega)]; omega, by rw [wb (by omega)]; omega⟩, by rw [wb (by omega), Int.toNat_natCast]; omega, ⟨by omega, by omega⟩, by omega⟩, ⟨x.a, x.b - 1⟩, ⟨rfl, rfl, (wb (by omega)).symm, rfl, λ j hj => ?_⟩, ⟨hx1, hx2, by show x.b - 1 <= x.a; omega, ?_⟩, by show x.b - 1 < x.b; omega⟩
   ·rw [wb (by omega), Int.toNat_natCast]
    show (QJ (IA l x.a) (gD l x.a) x.a (x.b - 1) j).st = _ /\ (QJ (IA l x.a) (gD l x.a) x.a (x.b - 1) j).lo = _ /\ (QJ (IA l x.a) (gD l x.a) x.a (x.b - 1) j).hi = _
    rw [BTQ (j := j) hb hx3 (by have hj : j < x.a + 1 := hj; omega)]
    cases decide (j = x.b) <;> exact ⟨rfl, rfl, rfl⟩
   ·show FV _ _ x.a = FV _ _ (x.b - 1)
    rw [hx4]; exact BUK hb hg
  ·refine ⟨⟨⟨by omega, by omega⟩, ⟨by omega, by omega⟩, by omega⟩, x.a + 1, ⟨rfl, (BF (by omega)).symm, rfl, λ j hj => ?_⟩, ⟨⟨by omega, by omega⟩, by omega⟩⟩
   rw [BBG hx2, BMK (j := j) hx3 (pl x.a hx2) (hx4.trans (BBY λ hb hg => lt hx2 hx3 hb hc hg)) (by omega)]
   cases decide (j = x.b) <;> exact ⟨rfl, rfl, rfl⟩
 ·have : l = [] := List.eq_nil_of_length_eq_zero (by omega)
  rw [this]; rfl
 ·have e := CCS (IA l i) (gD l i) i j
  rw [e]
  cases decide (j < i) <;> exact ⟨rfl, rfl, rfl⟩
 ·have wb : (x.b : Int) > 0 -> IntKind.i64.wrap ((x.b : Int) - 1) = ((x.b - 1 : Nat) : Int) := wb' (by omega)
  refine ⟨⟨λ hb => ⟨by rw [wb hb]; omega, by rw [wb hb]; omega⟩, λ hb => by rw [wb hb, Int.toNat_natCast]; omega, λ _ => ⟨by omega, by omega⟩⟩, λ hc => ?_, λ hc => ?_⟩
  ·obtain ⟨hb, hg⟩ := gt hx2 hx3 hc
   refine ⟨⟨⟨by rw [wb (by omega)]; omega, by rw [wb (by omega)]; omega⟩, by rw [wb (by omega), Int.toNat_natCast]; omega, ⟨by omega, by omega⟩, by omega⟩, ⟨x.a, x.b - 1⟩, ⟨rfl, rfl, (wb (by omega)).symm, rfl, λ j hj => ?_⟩, ⟨hx1, hx2, by show x.b - 1 <= x.a; omega, ?_⟩, by show x.b - 1 < x.b; omega⟩
   ·rw [wb (by omega), Int.toNat_natCast]
    show (QJ (IA l x.a) (gD l x.a) x.a (x.b - 1) j).st = _ /\ (QJ (IA l x.a) (gD l x.a) x.a (x.b - 1) j).lo = _ /\ (QJ (IA l x.a) (gD l x.a) x.a (x.b - 1) j).hi = _
    rw [BTQ (j := j) hb hx3 (by have hj : j < x.a + 1 := hj; omega)]
    cases decide (j = x.b) <;> exact ⟨rfl, rfl, rfl⟩
   ·show FV _ _ x.a = FV _ _ (x.b - 1)
    rw [hx4]; exact BUK hb hg
  ·refine ⟨⟨⟨by omega, by omega⟩, ⟨by omega, by omega⟩, by omega⟩, x.a + 1, ⟨rfl, (BF (by omega)).symm, rfl, λ j hj => ?_⟩, ⟨⟨by omega, by omega⟩, by omega⟩⟩
   rw [BBG hx2, BMK (j := j) hx3 (pl x.a hx2) (hx4.trans (BBY λ hb hg => lt hx2 hx3 hb hc hg)) (by omega)]
   cases decide (j = x.b) <;> exact ⟨rfl, rfl, rfl⟩
 ·have e : i = l.length := by omega
  subst e
  have e2 : IA l l.length = Jf l := by unfold IA; rw [List.take_of_length_le (Nat.le_refl _)]
  rw [e2]
  exact ⟨(RP l).length_eq, Nat.le_refl _, λ _ _ => ⟨rfl, rfl, rfl⟩⟩
theorem CJJ : AG Try.prog BPI (C_rSrt.spec JM) := HR C_rSrt CAK [] [301] CJX (λ _ => by kernel_rfl) (λ _ => AD) (λ (l : List Gau) h => CRW l (show l.length < 1073741824 /\ True from h).1) (λ _ => IN rfl rfl) _
theorem CWW (l : List Gau) (h : l.length < 1073741824) (ho : ∀ g ∈ l, DJ g) (ha : jU l) : COX l := by
 rw [CRJ]; delta Ho AJS AJH uQ AHO AGZ AGV BEJ BKC; simp only [CC, eq_self, implies_true, forall_const]
 refine ⟨⟨0, rfl, Nat.zero_le _, λ a b c _ _ _ h => by omega⟩, λ i ⟨i1, i2⟩ => ⟨λ hlt => ⟨⟨⟨i, i⟩, ⟨rfl, rfl⟩, rfl, by show i < l.length; omega, Nat.le_refl _, i1, λ a b c h1 h2 h3 h => i2 a b c h1 h2 h3 (by have h : a < i ∨ a = i /\ (b < i ∨ b = i /\ c < 0) := h; omega)⟩, λ x ⟨x1, x2, x3, x4, x5⟩ => ⟨λ hlt2 => ⟨⟨⟨x.a, x.b, x.b⟩, ⟨rfl, rfl, rfl⟩, ⟨x1, rfl⟩, x3, by show x.b < l.length; omega, Nat.le_refl _, x4, λ a b c h1 h2 h3 h => x5 a b c h1 h2 h3 (by have h : a < x.a ∨ a = x.a /\ (b < x.b ∨ b = x.b /\ c < x.b) := h; omega)⟩, λ y ⟨⟨y1, y2⟩, y3, y4, y5, y6, y7⟩ => ⟨λ hlt3 => ⟨⟨⟨by omega, by omega⟩, ⟨by omega, by omega⟩, ⟨by omega, by omega⟩, ho _ (BM (by omega)), ho _ (BM (by omega)), ho _ (BM (by omega))⟩, λ hf => CDT ho ha y3 y5 (by omega) hf, λ ht => ⟨⟨y.i, y.k, y.m + 1⟩, ⟨rfl, rfl, (BF (by omega)).symm⟩, ⟨⟨y1, y2⟩, y3, y4, by show y.k <= y.m + 1; omega, by show y.m + 1 <= _; omega, λ a b c h1 h2 h3 h => ?_⟩, by show l.length - (y.m + 1) < _; omega⟩⟩, λ hge => ⟨⟨y.i, y.k + 1⟩, ⟨rfl, (BF (by omega)).symm⟩, ⟨y1, by show y.i < _; omega, by show y.i <= y.k + 1; omega, by show y.k + 1 <= _; omega, λ a b c h1 h2 h3 h => y7 a b c h1 h2 h3 (by have h : a < y.i ∨ a = y.i /\ (b < y.k + 1 ∨ b = y.k + 1 /\ c < 0) := h; omega)⟩, by show l.length - (y.k + 1) < _; omega⟩⟩⟩, λ hge => ⟨x.a + 1, (BF (by omega)).symm, ⟨by omega, λ a b c h1 h2 h3 h => x5 a b c h1 h2 h3 (by omega)⟩, by omega⟩⟩⟩, λ hge => BZA ho ha λ a b c h1 h2 h3 h => i2 a b c h1 h2 h3 (by omega)⟩⟩
 have h : a < y.i ∨ a = y.i /\ (b < y.k ∨ b = y.k /\ c < y.m + 1) := h
 by_cases e : a = y.i /\ b = y.k /\ c = y.m
 ·obtain ⟨rfl, rfl, rfl⟩ := e; exact ht
 ·exact y7 a b c h1 h2 h3 (by omega)
theorem BRP : AG Try.prog qT (C_rPb.spec JM) := HR C_rPb CQC [] [] CHU (λ _ => by kernel_rfl) (λ _ => AB CMX AD) (λ (l : List Gau) h => CWW l h.1 h.2.1 h.2.2) (λ _ => IN rfl rfl) _
theorem Xr {a : GBI} {k : Nat} (h : k < a.g.length) : UV a (k + 1) = if ((ET a.b (gD a.g k).st : Int) == a.p) = true then UV a k ++ [gD a.g k] else UV a k := by
 unfold UV
 rw [DF h, List.filter_append]
 by_cases c : ((ET a.b (gD a.g k).st : Int) == a.p) = true
 ·rw [if_pos c, List.filter_cons, if_pos c]; rfl
 ·rw [if_neg c, List.filter_cons, if_neg c]; simp
theorem BNV (a : GBI) {k : Nat} (h : ¬(k : Int) < a.g.length) : DP a.g a.b a.p = Jf (UV a k) := by
 unfold UV DP BE KY AP
 rw [List.take_of_length_le (by omega)]
theorem AQC (a : GBI) (k : Nat) : (UV a k).length <= k := Nat.le_trans (List.length_filter_le _ _) (by rw [List.length_take]; omega)
theorem CSG (a : GBI) (h1 : a.g.length < 1073741824) (h2 : a.b.length < 1073741824) : CHJ a := by
 rw [CKV]; delta QG ANF PM PC PF JK wU Ov AQB AOB Ce Vx ADQ A1 AED Qp ADZ Z6 W3 IQ IV L7 L3 ABU ABC G7 Xn X5 yD Tl ADL AAT Yf zB Si AAG O0 A5 AEY Ro ABT C0 Sh Uq S6 Wk Xo Un Yc zK Sm; simp only [CC, eq_self, implies_true, forall_const]
 have cn : ∀ (m k : Nat), k < a.g.length /\ a.g.length - k = m /\ UV a (k + 1) = [] -> ∃ j : Nat, (j : Int) = IntKind.i64.wrap ((k : Int) + 1) /\ (j <= a.g.length /\ UV a j = []) /\ a.g.length - j < m := λ m k ⟨b1, b2, b3⟩ => ⟨k + 1, (BF (by omega)).symm, ⟨by omega, b3⟩, by omega⟩
 have co : ∀ (m : Nat) (x : KG), x.k < a.g.length /\ a.g.length - x.k = m /\ UV a (x.k + 1) = x.l -> ∃ y : KG, (y.l.length = x.l.length /\ (y.k : Int) = IntKind.i64.wrap ((x.k : Int) + 1) /\ y.l.length = x.l.length /\ ∀ i, i < y.l.length -> (gD y.l i).st = (gD x.l i).st /\ (gD y.l i).lo = (gD x.l i).lo /\ (gD y.l i).hi = (gD x.l i).hi) /\ (y.k <= a.g.length /\ UV a y.k = y.l) /\ a.g.length - y.k < m := λ m x ⟨b1, b2, b3⟩ => ⟨⟨x.k + 1, x.l⟩, ⟨rfl, (BF (by omega)).symm, rfl, λ _ _ => ⟨rfl, rfl, rfl⟩⟩, ⟨by show x.k + 1 <= _; omega, b3⟩, by show a.g.length - (x.k + 1) < m; omega⟩
 refine ⟨⟨0, rfl, Nat.zero_le _, rfl⟩, λ k ⟨k1, k2⟩ => ⟨λ hlt => ⟨⟨⟨⟨by omega, by omega⟩, h2⟩, λ hp => ⟨⟨⟨by omega, by omega⟩, by omega, by omega, by omega, by omega, by omega⟩, ⟨k, [gD a.g k]⟩, ⟨rfl, rfl, rfl, λ i hi => ?_⟩, by show k < _; omega, rfl, ?_⟩, λ hp => ⟨k, rfl, by omega, rfl, ?_⟩⟩, cn _, co _⟩, λ hge => ?_⟩, λ x ⟨x1, x2⟩ => ⟨λ hlt => ⟨⟨⟨⟨by omega, by omega⟩, h2⟩, λ hp => ⟨⟨⟨by omega, by omega⟩, by omega, λ h => (by cases h), ?_, ?_⟩, ⟨x.k, x.l ++ [gD a.g x.k]⟩, ⟨by simp, rfl, by simp, λ i hi => ?_⟩, by show x.k < _; omega, rfl, ?_⟩, λ hp => ⟨⟨x.k, x.l⟩, ⟨rfl, rfl, rfl, λ _ _ => ⟨rfl, rfl, rfl⟩⟩, by show x.k < _; omega, rfl, ?_⟩⟩, cn _, co _⟩, λ hge => ?_⟩⟩
 ·rw [show i = 0 by have hi : i < 1 := hi; omega]; exact ⟨rfl, rfl, rfl⟩
 ·show UV a (k + 1) = [gD a.g k]
  rw [Xr (by omega), if_pos hp, k2]; rfl
 ·rw [Xr (by omega), if_neg (by rw [hp]; simp), k2]
 ·have e := BNV a hge
  rw [k2] at e
  have e0 : (DP a.g a.b a.p).length = 0 := by rw [e]; rfl
  exact ⟨by omega, e0, λ i hi => by omega⟩
 ·have := AQC a x.k; rw [x2] at this; omega
 ·have := AQC a x.k; rw [x2] at this; omega
 ·exact BTF _ _ i hi
 ·show UV a (x.k + 1) = x.l ++ _
  rw [Xr (by omega), if_pos hp, x2]
 ·show UV a (x.k + 1) = x.l
  rw [Xr (by omega), if_neg (by rw [hp]; simp), x2]
 ·have := AQC a x.k; rw [x2] at this
  have e := BNV a hge
  rw [x2] at e
  rw [e]
  exact ⟨⟨Nat.le_refl _, by omega⟩, rfl, λ _ _ => ⟨rfl, rfl, rfl⟩⟩
theorem AHK : AG Try.prog ACP (C_rIns.spec dGBI) := HR C_rIns CFA [] [301] CMZ (λ _ => by kernel_rfl) (λ _ => AB tC (AB CJJ AD)) (λ (a : GBI) h => CSG a h.1 h.2) (λ _ => IN rfl rfl) _
end Go.Bal
