/- Package rating: the order of gaugings. -/
import Derived.Test.YtoihhodbkimedaaRatQ
set_option linter.unusedVariables false
set_option linter.unusedSimpArgs false
namespace Go.Bal
open Go Go.Sym Go.Proofs
structure GAB where
 g : List Gau
 a : Int
 b : Int
def CR (g : List Gau) (x : Int) : Int := (gD g x.toNat).st
def bxG (g : List Gau) : AObj := .box [.d (BO g)]
def dGAB : List AVal -> Heap -> Option (GAB × List (Nat × Nat) × List Nat)
 | [.d x, .d y, .bptr id _], H => match H id with
  | .live (.box [.d (.list _ n h _)]) => some (⟨AD n λ i => UQ (h i), DK x, DK y⟩, [(100, id)], [])
  | _ => none
 | _, _ => none
def C_fw1 : Ctr := { ro := [100], α := GAB, xs := λ a => [.int a.a, .int a.b, .bptr 100 0], L := λ a => [(100, bxG a.g)], val := λ a => .int (HJ (CR a.g a.a) (CR a.g a.b)), keep := λ a => [(100, .live (bxG a.g))], pre := λ a => [(0 <= a.a /\ a.a < a.g.length) /\ 0 <= a.b /\ a.b < a.g.length] }
def CIF : Ann := { ann 17 [(dB, ABA)] with E := [100] }
def CJZ (a : GAB) : Prop := AY Try.prog CIF C3 (AF C3) (C_fw1.xs a) (AC (C_fw1.L a)) (C_fw1.val a) (C_fw1.keep a) [] []
theorem CMY (a : GAB) : (CJZ a) = (((0 <= a.a /\ a.a < (↑a.g.length : Int)) /\ 0 <= a.b /\ a.b < (↑a.g.length : Int)) /\ HJ (CR a.g a.a) (CR a.g a.b) = HJ (gD a.g a.a.toNat).st (gD a.g a.b.toNat).st /\ a.g.length =
 a.g.length /\ ∀ (i : Nat), i < a.g.length -> (gD a.g i).st = (gD a.g i).st /\ (gD a.g i).lo = (gD a.g i).lo /\ (gD a.g i).hi = (gD a.g i).hi) := by kernel_rfl
def rowI (l : List Int) : AObj := .row 1 l.length λ i => CU (gD l i)
def COS (n : Nat) (l : List Int) : AObj := .row 1 n λ i => CU (gD l i)
def swL (l : List Int) (j : Nat) : List Int := (l.set j (gD l (j + 1))).set (j + 1) (gD l j)
def insJ (key : Int -> Int) : Nat -> List Int -> List Int
 | 0, l => l
 | j + 1, l => bif decide (HJ (key (gD l (j + 1))) (key (gD l j)) < 0) then insJ key j (swL l j) else l
def stR (key : Int -> Int) : Nat -> Nat -> List Int -> List Int
 | 0, _, l => l
 | n + 1, i, l => stR key n (i + 1) (insJ key i l)
def stM (key : Int -> Int) (l : List Int) : List Int := stR key (l.length - 1) 1 l
structure GL where
 g : List Gau
 l : List Int
 a : Int
 b : Int
structure IL2 where
 i : Nat
 l : List Int
 deriving Inhabited
structure IJL where
 i : Nat
 j : Nat
 l : List Int
 deriving Inhabited
def fnW1 : AVal := .fn (.func LW) [] [.bptr 101 0]
def glK (a : GL) (l : List Int) : List (Nat × HCell) := [(100, .live (COS a.l.length l)), (101, .live (bxG a.g))]
def glIn (a : GL) (l : List Int) : Prop := l.length = a.l.length /\ ∀ i, i < a.l.length -> 0 <= gD l i /\ gD l i < a.g.length
def glOk (a : GL) : Prop := a.l.length < 1073741824 /\ ∀ i, i < a.l.length -> 0 <= gD a.l i /\ gD a.l i < a.g.length
def dGL : List AVal -> Heap -> Option (GL × List (Nat × Nat) × List Nat)
 | [.own id _ _ n, .d x, .d y, .fn (.func f) [] [.bptr c _]], H => if f = LW then match H id, H c with
  | .live (.row _ m r), .live (.box [.d (.list _ k h _)]) => some (⟨AD k λ i => UQ (h i), AD n λ i => DK (r i), DK x, DK y⟩, [(100, id), (101, c)], [])
  | _, _ => none else none
 | _, _ => none
def C_ins : Ctr := { ro := [101], α := GL, xs := λ a => [.own 100 1 0 a.l.length, .int a.a, .int a.b, fnW1], L := λ a => [(100, rowI a.l), (101, bxG a.g)], val := λ _ => .d (.tup []), keep := λ a => glK a (stM (CR a.g) a.l), pre := λ a => [(a.a = 0 /\ a.b = a.l.length) /\ glOk a] }
def ins1 (a : GL) : Shape := { α := IL2, dflt := default, T := λ x => ⟨[(0, .own 100 1 0 a.l.length), (1, .int 0), (2, .int a.l.length), (3, fnW1), (8, .int x.i)], glK a x.l⟩, inv := λ x => 1 <= x.i /\ (x.i <= a.l.length ∨ x.i = 1) /\ glIn a x.l /\ stM (CR a.g) a.l = stR (CR a.g) (a.l.length - x.i) x.i x.l, meas := λ x => a.l.length - x.i }
def ins4 (a : GL) (m : Nat) : Shape := { α := IJL, dflt := default, T := λ x => ⟨[(0, .own 100 1 0 a.l.length), (1, .int 0), (2, .int a.l.length), (3, fnW1), (8, .int x.i), (9, .int x.j)], glK a x.l⟩, inv := λ x => a.l.length - x.i = m /\ 1 <= x.i /\ x.i < a.l.length /\ x.j <= x.i /\ glIn a x.l /\ stM (CR a.g) a.l = stR (CR a.g) (a.l.length - (x.i + 1)) (x.i + 1) (insJ (CR a.g) x.j x.l), meas := λ x => x.j }
def CJY (a : GL) : Ann := { ann 53 [(LW, C_fw1.spec dGAB)] with E := [100, 101], loops := λ id => if id = 1 then some [ins1 a] else none, inner := λ gs id => if id = 4 then some [ins4 a (gs.getD 0 0)] else none }
def CIT (a : GL) : Prop := AY Try.prog (CJY a) BNP (AF BNP) [.own 100 1 0 a.l.length, .int 0, .int a.l.length, fnW1] (AC (C_ins.L a)) (C_ins.val a) (C_ins.keep a) [] []
abbrev xF : Prop := (0 : Nat) = (0 : Nat)
abbrev OQ (a : GL) : Prop := a.l.length = a.l.length
abbrev rL : Prop := Int.ofNat (0 : Nat) = Int.ofNat (0 : Nat)
abbrev wC (a : GL) : Prop := (↑a.l.length : Int) = (↑a.l.length : Int)
abbrev Tz (a : GL) : Prop := a.g.length = a.g.length /\ ∀ (i : Nat), i < a.g.length -> (gD a.g i).st = (gD a.g i).st /\ (gD a.g i).lo = (gD a.g i).lo /\ (gD a.g i).hi = (gD a.g i).hi
abbrev wU (a : GL) (a1 : IL2) : Nat := a.l.length - a1.i
abbrev AIC (a : IL2) (a1 : GL) : Prop := (1 : Nat) <= a.i /\ (a.i <= a1.l.length ∨ a.i = (1 : Nat)) /\ (a.l.length = a1.l.length /\ ∀ (i : Nat), i < a1.l.length -> (0 : Int) <= gD a.l i /\ gD a.l i < (↑a1.g.length : Int)) /\
 stM (CR a1.g) a1.l = stR (CR a1.g) (wU a1 a) a.i a.l
abbrev BII (a : IJL) : Nat := a.i + (1 : Nat)
abbrev AIE (a : GL) (a1 : IJL) (a2 : IL2) : Prop := a.l.length - a1.i = wU a a2 /\ (1 : Nat) <= a1.i /\ a1.i < a.l.length /\ a1.j <= a1.i /\ (a1.l.length = a.l.length /\ ∀ (i : Nat), i < a.l.length -> (0 : Int) <= gD
 a1.l i /\ gD a1.l i < (↑a.g.length : Int)) /\ stM (CR a.g) a.l = stR (CR a.g) (a.l.length - BII a1) (BII a1) (insJ (CR a.g) a1.j a1.l)
abbrev BGV (a : IJL) : Bool := decide ((↑a.j : Int) > (0 : Int))
abbrev Aj (a : IJL) : Prop := BGV a = true
abbrev uA (a : IJL) (a1 : GL) : Prop := (0 : Int) <= (↑a.j : Int) /\ (↑a.j : Int) < (↑a1.l.length : Int)
abbrev Jx (a : IJL) : Nat := (0 : Nat) + a.j
abbrev Nk (a : IJL) : Int := IntKind.i64.wrap ((↑a.j : Int) - (1 : Int))
abbrev rT (a : IJL) (a1 : GL) : Prop := (0 : Int) <= Nk a /\ Nk a < (↑a1.l.length : Int)
abbrev Lc (a : IJL) : Nat := (0 : Nat) + (Nk a).toNat
abbrev AQY (a : IJL) (a1 : GL) : Prop := (Lc a).succ.le a1.l.length
abbrev UD (a : IJL) : Int := gD a.l (Jx a)
abbrev RZ (a : IJL) : Int := gD a.l (Lc a)
abbrev Nu (a : GL) : List Gau := AD a.g.length λ (i : Nat) => gD a.g i
abbrev Ao (a : GL) : Nat := (Nu a).length
abbrev rQ (a : GL) (i : Nat) : Gau := gD (Nu a) i
abbrev AVF (a : GL) (i : Nat) : Int := (rQ a i).st
abbrev ALS (a : GL) (i : Nat) : Int := (rQ a i).lo
abbrev AXU (a : GL) (i : Nat) : Int := (rQ a i).hi
abbrev ANL (a : IJL) (a1 : GL) : Prop := Jx a < a1.l.length
theorem CNI (a : GL) : (CIT a) = ((∃ (a_1 : IL2), (xF /\ OQ a /\ rL /\ wC a /\ (↑a_1.i : Int) = IntKind.i64.wrap ((0 : Int) + (1 : Int)) /\ OQ a /\ (∀ (i : Nat), i < a.l.length -> gD a_1.l i = gD
 a.l i) /\ Tz a) /\ AIC a_1 a) /\ ∀ (a_1 : IL2), AIC a_1 a -> bif decide ((↑a_1.i : Int) < (↑a.l.length : Int)) then (∃ (a_3 : IJL), (xF /\ OQ a /\ rL /\ wC a /\ (↑a_3.i : Int) = (↑a_1.i : Int) /\
 (↑a_3.j : Int) = (↑a_1.i : Int) /\ OQ a /\ (∀ (i : Nat), i < a.l.length -> gD a_3.l i = gD a_1.l i) /\ Tz a) /\ AIE a a_3 a_1) /\ ∀ (a_3 : IJL), AIE a a_3 a_1 -> ((Aj a_3 -> uA a_3 a) /\ (Aj
 a_3 -> (Jx a_3).succ.le a.l.length) /\ (Aj a_3 -> rT a_3 a) /\ (Aj a_3 -> AQY a_3 a) /\ (Aj a_3 -> UD a_3 = UD a_3 /\ RZ a_3 = RZ a_3 /\ Ao a = a.g.length /\ (∀ (i :
 Nat), i < Ao a -> AVF a i = (gD a.g i).st /\ ALS a i = (gD a.g i).lo /\ AXU a i = (gD a.g i).hi) /\ a.g.length = Ao a /\ (∀ (i : Nat), i < a.g.length -> (gD a.g i).st = AVF a i /\ (gD a.g i).lo =
 ALS a i /\ (gD a.g i).hi = AXU a i) /\ ((0 : Int) <= UD a_3 /\ UD a_3 < (↑(Ao a) : Int)) /\ (0 : Int) <= RZ a_3 /\ RZ a_3 < (↑(Ao a) : Int))) /\ bif bif BGV a_3 then decide (HJ
 (CR (Nu a) (UD a_3)) (CR (Nu a) (RZ a_3)) < (0 : Int)) else false then (rT a_3 a /\ Lc a_3 < a.l.length /\ uA a_3 a /\ ANL a_3 a /\ uA a_3 a /\ ANL a_3 a /\
 rT a_3 a /\ AQY a_3 a) /\ ∃ (a_5 : IJL), (xF /\ OQ a /\ rL /\ wC a /\ (↑a_5.i : Int) = (↑a_3.i : Int) /\ (↑a_5.j : Int) = Nk a_3 /\ OQ a /\ (∀ (i : Nat), i < a.l.length -> gD a_5.l i = bif
 decide (i = Lc a_3) then UD a_3 else bif decide (i = Jx a_3) then RZ a_3 else gD a_3.l i) /\ Tz a) /\ AIE a a_5 a_1 /\ a_5.j < a_3.j else ∃ (a_5 : IL2), (xF /\ OQ a /\ rL /\
 wC a /\ (↑a_5.i : Int) = IntKind.i64.wrap ((↑a_3.i : Int) + (1 : Int)) /\ OQ a /\ (∀ (i : Nat), i < a.l.length -> gD a_5.l i = gD a_3.l i) /\ Tz a) /\ AIC a_5 a /\ wU a a_5 < wU a a_1 else OQ a
 /\ (∀ (i : Nat), i < a.l.length -> gD (stM (CR a.g) a.l) i = gD a_1.l i) /\ Tz a) := by kernel_rfl
def dGLs : List AVal -> Heap -> Option (GL × List (Nat × Nat) × List Nat)
 | [.own id _ _ n, .d x, .fn (.func f) [] [.bptr c _]], H => if f = LW then match H id, H c with
  | .live (.row _ m r), .live (.box [.d (.list _ k h _)]) => some (⟨AD k λ i => UQ (h i), AD n λ i => DK (r i), DK x, 0⟩, [(100, id), (101, c)], [])
  | _, _ => none else none
 | _, _ => none
def C_stb : Ctr := { ro := [101], α := GL, xs := λ a => [.own 100 1 0 a.l.length, .int a.a, fnW1], L := λ a => [(100, rowI a.l), (101, bxG a.g)], val := λ _ => .d (.tup []), keep := λ a => glK a (stM (CR a.g) a.l), pre := λ a => [(a.a = a.l.length /\ a.l.length < 20) /\ glOk a] }
def sb (a : GL) (l : List Int) (r : List (Nat × AVal)) : Shape := { α := One, dflt := default, T := λ _ => ⟨[(0, .own 100 1 0 a.l.length), (1, .int a.l.length), (2, fnW1), (6, .int 20)] ++ r, glK a l⟩, inv := λ _ => True, meas := λ _ => 0 }
def CHZ (a : GL) : Ann := { ann 63 [(BFN, C_ins.spec dGL)] with E := [100, 101], loops := λ id => if id = 2 then some [sb a a.l [(7, .int 0), (8, .int 20)]] else if id = 7 then some [sb a (stM (CR a.g) a.l) []] else none }
def CJL (a : GL) : Prop := AY Try.prog (CHZ a) CBP (AF CBP) [.own 100 1 0 a.l.length, .int a.l.length, fnW1] (AC (C_stb.L a)) (C_stb.val a) (C_stb.keep a) [] []
abbrev Sq : Prop := (0 : Nat) = (0 : Nat)
abbrev Rc (a : GL) : Prop := a.l.length = a.l.length
abbrev sU (a : GL) : Prop := (↑a.l.length : Int) = (↑a.l.length : Int)
abbrev qL : Prop := Int.ofNat (20 : Nat) = Int.ofNat (20 : Nat)
abbrev pY (a : GL) : Prop := a.g.length = a.g.length /\ ∀ (i : Nat), i < a.g.length -> (gD a.g i).st = (gD a.g i).st /\ (gD a.g i).lo = (gD a.g i).lo /\ (gD a.g i).hi = (gD a.g i).hi
abbrev AGM (a : GL) : List Int := AD a.l.length λ (i : Nat) => gD a.l i
abbrev Dl (a : GL) : Nat := (AGM a).length
abbrev vM (a : GL) : Prop := Dl a = a.l.length
abbrev xW : Prop := (0 : Int) = Int.ofNat (0 : Nat)
abbrev BGY (i : Nat) (a : GL) : Prop := i < Dl a
abbrev sY (a : GL) (i : Nat) : Int := gD (AGM a) i
abbrev AWV (a : GL) : Prop := ∀ (i : Nat), BGY i a -> sY a i = gD a.l i
abbrev qE (a : GL) : List Gau := AD a.g.length λ (i : Nat) => gD a.g i
abbrev Jr (a : GL) : Nat := (qE a).length
abbrev AYO (a : GL) : Prop := Jr a = a.g.length
abbrev uL (a : GL) (i : Nat) : Gau := gD (qE a) i
abbrev APN (a : GL) (i : Nat) : Int := (uL a i).st
abbrev AQM (a : GL) (i : Nat) : Int := (uL a i).lo
abbrev ARJ (a : GL) (i : Nat) : Int := (uL a i).hi
abbrev AXG (a : GL) : Prop := ∀ (i : Nat), i < Jr a -> APN a i = (gD a.g i).st /\ AQM a i = (gD a.g i).lo /\ ARJ a i = (gD a.g i).hi
abbrev AKZ (a : GL) : Prop := a.g.length = Jr a
abbrev AXE (a : GL) : Prop := ∀ (i : Nat), i < a.g.length -> (gD a.g i).st = APN a i /\ (gD a.g i).lo = AQM a i /\ (gD a.g i).hi = ARJ a i
abbrev ANX (a : GL) : Prop := Dl a < (1073741824 : Nat) /\ ∀ (i : Nat), BGY i a -> (0 : Int) <= sY a i /\ sY a i < (↑(Jr a) : Int)
abbrev AZV (a : GL) : Prop := a.l.length = Dl a
abbrev AJI (a : GL) (i : Nat) : Int := gD (stM (CR (qE a)) (AGM a)) i
abbrev oT (a : GL) (i : Nat) : Int := gD (stM (CR a.g) a.l) i
theorem CLK (a : GL) : (CJL a) = ((∃ (a_1 : One), (Sq /\ Rc a /\ sU a /\ qL /\ Int.ofNat (0 : Nat) = Int.ofNat (0 : Nat) /\ qL /\ Rc a /\ (∀ (i : Nat), i < a.l.length -> gD a.l i = gD a.l i) /\
 pY a) /\ True) /\ ∀ (a_1 : One), True -> bif decide ((20 : Int) <= (↑a.l.length : Int)) then (Sq /\ vM a /\ xW /\ (20 : Int) = Int.ofNat (20 : Nat) /\ vM a /\ AWV a /\ AYO a /\ AXG a /\
 AKZ a /\ AXE a /\ (xW /\ (20 : Int) = (↑(Dl a) : Int)) /\ ANX a) /\ ∃ (a_3 : One), (Sq /\ Rc a /\ sU a /\ qL /\ Int.ofNat (0 : Nat) = Int.ofNat (20 : Nat) /\ Int.ofNat (20 : Nat) =
 Int.ofNat (((20 : Nat) + (20 : Nat)) % ((2 : Int) ^ IntKind.i64.bits).natAbs) /\ AZV a /\ (∀ (i : Nat), i < a.l.length -> gD a.l i = AJI a i) /\ pY a) /\ True /\ (0 : Nat) < (0 : Nat) else (Sq /\ vM a /\
 xW /\ sU a /\ vM a /\ AWV a /\ AYO a /\ AXG a /\ AKZ a /\ AXE a /\ (xW /\ (↑a.l.length : Int) = (↑(Dl a) : Int)) /\ ANX a) /\ (∃ (a_3 : One), (Sq /\ Rc a /\ sU a /\
 qL /\ AZV a /\ (∀ (i : Nat), i < a.l.length -> oT a i = AJI a i) /\ pY a) /\ True) /\ ∀ (a_3 : One), True -> bif decide ((20 : Int) < (↑a.l.length : Int)) then False else Rc a /\ (∀ (i : Nat), i <
 a.l.length -> oT a i = oT a i) /\ pY a) := by kernel_rfl
def dGLt : List AVal -> Heap -> Option (GL × List (Nat × Nat) × List Nat)
 | [.own id _ _ n, .fn (.func f) [] [.bptr c _]], H => if f = LW then match H id, H c with
  | .live (.row _ m r), .live (.box [.d (.list _ k h _)]) => some (⟨AD k λ i => UQ (h i), AD n λ i => DK (r i), 0, 0⟩, [(100, id), (101, c)], [])
  | _, _ => none else none
 | _, _ => none
def C_ss : Ctr := { ro := [101], α := GL, xs := λ a => [.own 100 1 0 a.l.length, fnW1], L := λ a => [(100, rowI a.l), (101, bxG a.g)], val := λ _ => .d (.tup []), keep := λ a => glK a (stM (CR a.g) a.l), pre := λ a => [a.l.length < 20 /\ glOk a] }
def A_ss : Ann := { ann 9 [(BPR, C_stb.spec dGLs)] with E := [100, 101] }
def V_ss (a : GL) : Prop := AY Try.prog A_ss CBD (AF CBD) (C_ss.xs a) (AC (C_ss.L a)) (C_ss.val a) (C_ss.keep a) [] []
theorem CQH (a : GL) : (V_ss a) = ((0 = 0 /\ (AD a.l.length λ (i : Nat) => gD a.l i).length = a.l.length /\ (↑a.l.length : Int) = (↑a.l.length : Int) /\ (AD a.l.length λ (i : Nat) => gD a.l i).length = a.l.length /\
 (∀ (i : Nat), i < (AD a.l.length λ (i : Nat) => gD a.l i).length -> gD (AD a.l.length λ (i : Nat) => gD a.l i) i = gD a.l i) /\ (AD a.g.length λ (i : Nat) => gD a.g i).length = a.g.length /\ (∀ (i : Nat), i < (AD
 a.g.length λ (i : Nat) => gD a.g i).length -> (gD (AD a.g.length λ (i : Nat) => gD a.g i) i).st = (gD a.g i).st /\ (gD (AD a.g.length λ (i : Nat) => gD a.g i) i).lo = (gD a.g i).lo /\ (gD (AD a.g.length λ (i :
 Nat) => gD a.g i) i).hi = (gD a.g i).hi) /\ a.g.length = (AD a.g.length λ (i : Nat) => gD a.g i).length /\ (∀ (i : Nat), i < a.g.length -> (gD a.g i).st = (gD (AD a.g.length λ (i : Nat) => gD a.g i) i).st /\ (gD a.g
 i).lo = (gD (AD a.g.length λ (i : Nat) => gD a.g i) i).lo /\ (gD a.g i).hi = (gD (AD a.g.length λ (i : Nat) => gD a.g i) i).hi) /\ ((↑a.l.length : Int) = (↑(AD a.l.length λ (i : Nat) => gD a.l i).length : Int) /\
 (AD a.l.length λ (i : Nat) => gD a.l i).length < 20) /\ (AD a.l.length λ (i : Nat) => gD a.l i).length < 1073741824 /\ ∀ (i : Nat), i < (AD a.l.length λ (i : Nat) => gD a.l i).length -> 0 <= gD (AD a.l.length fun
 (i : Nat) => gD a.l i) i /\ gD (AD a.l.length λ (i : Nat) => gD a.l i) i < (↑(AD a.g.length λ (i : Nat) => gD a.g i).length : Int)) /\ a.l.length = (AD a.l.length λ (i : Nat) => gD a.l i).length /\ (∀ (i : Nat), i
 < a.l.length -> gD (stM (CR a.g) a.l) i = gD (stM (CR (AD a.g.length λ (i : Nat) => gD a.g i)) (AD a.l.length λ (i : Nat) => gD a.l i)) i) /\ a.g.length = a.g.length /\ ∀ (i : Nat), i < a.g.length -> (gD a.g i).st
 = (gD a.g i).st /\ (gD a.g i).lo = (gD a.g i).lo /\ (gD a.g i).hi = (gD a.g i).hi) := by kernel_rfl
theorem CMU : AG Try.prog LW (C_fw1.spec dGAB) := JX C_fw1 (λ _ => CIF) [] [] BMP (λ _ => by kernel_rfl) (λ _ => AB BGP AE) (λ (a : GAB) h => by
 show CJZ a; rw [CMY]; simp only [CC, eq_self, implies_true, forall_const]
 exact ⟨h, rfl⟩) (λ _ => KJ rfl rfl) _
theorem BSH {l : List Int} {j i : Nat} {x : Int} (hj : j < l.length) : gD (l.set j x) i = bif decide (i = j) then x else gD l i := by
 unfold gD
 rw [List.getD_eq_getElem?_getD, List.getD_eq_getElem?_getD, List.getElem?_set]
 by_cases h : i = j
 ·subst h; simp [hj]
 ·simp [h, Ne.symm h]
theorem AMB {l : List Int} {j i : Nat} (hj : j + 1 < l.length) : gD (swL l j) i = bif decide (i = j) then gD l (j + 1) else bif decide (i = j + 1) then gD l j else gD l i := by
 unfold swL
 rw [BSH (by simpa using hj), BSH (by omega)]
 by_cases h : i = j
 ·subst h; simp
 ·simp [h]
theorem AZH (l : List Int) (j : Nat) : (swL l j).length = l.length := by simp [swL]
theorem CPB (a : GL) (h : glOk a) : CIT a := by
 rw [CNI]; delta xF OQ rL wC Tz wU AIC BII AIE BGV Aj uA Jx Nk rT Lc AQY UD RZ Nu Ao rQ AVF ALS AXU ANL; simp only [CC, eq_self, implies_true, forall_const]
 obtain ⟨hlen, hin⟩ := h
 refine ⟨⟨⟨1, a.l⟩, ⟨by show (1 : Int) = _; rw [EO (by omega) (by omega)]; rfl, λ _ _ => rfl⟩, Nat.one_pos, .inr rfl, ⟨rfl, hin⟩, rfl⟩, λ x ⟨x1, x2, ⟨x3, x4⟩, x5⟩ => ⟨λ hlt => ⟨⟨⟨x.i, x.i, x.l⟩, ⟨rfl, rfl, λ _ _ => rfl⟩, rfl, x1, Int.ofNat_lt.1 hlt, Nat.le_refl _, ⟨x3, x4⟩, ?_⟩, λ y ⟨y1, y2, y3, y4, ⟨y5, y6⟩, y7⟩ => ?_⟩, λ hge => ?_⟩⟩
 ·rw [x5, show a.l.length - x.i = (a.l.length - (x.i + 1)) + 1 by omega]; rfl
 ·refine ⟨⟨λ _ => ⟨by omega, by omega⟩, λ _ => by omega, λ hj => ?_, λ hj => ?_, λ hj => ⟨y6 _ (by omega), ?_⟩⟩, λ hc => ?_, λ hc => ?_⟩
  ·rw [EO (by omega) (by omega)]; omega
  ·rw [EO (by omega) (by omega)]; omega
  ·rw [EO (by omega) (by omega)]; exact y6 _ (by omega)
  ·have hj : 0 < y.j := by
    cases hd : decide ((y.j : Int) > 0) with
    | false => rw [hd] at hc; cases hc
    | true => have := of_decide_eq_true hd; omega
   obtain ⟨j, hj2⟩ : ∃ j, y.j = j + 1 := ⟨y.j - 1, by omega⟩
   have e : IntKind.i64.wrap ((y.j : Int) - 1) = (j : Nat) := by rw [EO (by omega) (by omega)]; omega
   rw [decide_eq_true (show (y.j : Int) > 0 by omega)] at hc
   have hc : decide (HJ (CR a.g (gD y.l y.j)) (CR a.g (gD y.l (IntKind.i64.wrap ((y.j : Int) - 1)).toNat)) < 0) = true := hc
   rw [e] at hc ⊢
   simp only [Int.toNat_natCast] at hc ⊢
   refine ⟨⟨⟨by omega, by omega⟩, by omega, ⟨by omega, by omega⟩, by omega, ⟨by omega, by omega⟩, by omega, ⟨by omega, by omega⟩, by omega⟩, ⟨y.i, j, swL y.l j⟩, ⟨rfl, rfl, λ i hi => ?_⟩, ⟨y1, y2, y3, by show j <= y.i; omega, ⟨by rw [AZH]; exact y5, λ i hi => ?_⟩, ?_⟩, by show j < _; omega⟩
   ·show gD (swL y.l j) i = _
    rw [AMB (by omega), hj2]
   ·show 0 <= gD (swL y.l j) i /\ gD (swL y.l j) i < _
    rw [AMB (by omega)]
    cases decide (i = j)
    ·cases decide (i = j + 1)
     ·exact y6 i hi
     ·exact y6 j (by omega)
    ·exact y6 (j + 1) (by omega)
   ·rw [hj2] at hc y7
    unfold insJ at y7
    rw [hc] at y7; exact y7
  ·have hq : insJ (CR a.g) y.j y.l = y.l := by
    cases hd : decide ((y.j : Int) > 0) with
    | false =>
     have := of_decide_eq_false hd
     rw [show y.j = 0 by omega]; rfl
    | true =>
     have hj := of_decide_eq_true hd
     obtain ⟨j, hj2⟩ : ∃ j, y.j = j + 1 := ⟨y.j - 1, by omega⟩
     have e : IntKind.i64.wrap ((y.j : Int) - 1) = (j : Nat) := by rw [EO (by omega) (by omega)]; omega
     rw [hd] at hc
     have hc : decide (HJ (CR a.g (gD y.l y.j)) (CR a.g (gD y.l (IntKind.i64.wrap ((y.j : Int) - 1)).toNat)) < 0) = false := hc
     rw [e, hj2] at hc
     simp only [Int.toNat_natCast] at hc
     rw [hj2]; unfold insJ; rw [hc]; rfl
   rw [hq] at y7
   refine ⟨⟨y.i + 1, y.l⟩, ⟨(CA (by omega)).symm, λ _ _ => rfl⟩, ⟨by show 0 < y.i + 1; omega, .inl (by show y.i + 1 <= _; omega), ⟨y5, y6⟩, y7⟩, by show a.l.length - (y.i + 1) < _; omega⟩
 ·intro i hi
  rw [x5, show a.l.length - x.i = 0 by omega]; rfl
theorem CMC : AG Try.prog BFN (C_ins.spec dGL) := okT C_ins (λ (a : GL) h => by
 obtain ⟨⟨ha, hb⟩, h⟩ : (a.a = 0 /\ a.b = a.l.length) /\ glOk a := h
 show FnT Try.prog BFN [.own 100 1 0 a.l.length, .int a.a, .int a.b, fnW1] _ _ _
 rw [ha, hb]
 exact RD (A := CJY a) (L := C_ins.L a) (keep := C_ins.keep a) (ren := []) (fz := []) CDV (by kernel_rfl) (AB CMU AE) (CPB a h)) _
theorem CKS : AG Try.prog BPR (C_stb.spec dGLs) := okT C_stb (λ (a : GL) h => by
 obtain ⟨⟨ha, hb⟩, h⟩ : (a.a = a.l.length /\ a.l.length < 20) /\ glOk a := h
 show FnT Try.prog BPR [.own 100 1 0 a.l.length, .int a.a, fnW1] _ _ _
 rw [ha]
 refine RD (A := CHZ a) (L := C_stb.L a) (keep := C_stb.keep a) (ren := []) (fz := []) CNE (by kernel_rfl) (AB CMC AE) ?_
 show CJL a
 rw [CLK]; delta Sq Rc sU qL pY AGM Dl vM xW BGY sY AWV qE Jr AYO uL APN AQM ARJ AXG AKZ AXE ANX AZV AJI oT; simp only [CC, eq_self, implies_true, forall_const]
 exact ⟨⟨default, trivial⟩, λ hc => by omega, λ _ => ⟨⟨rfl, rfl, h⟩, ⟨default, trivial⟩, λ hc => by omega⟩⟩) _
theorem CQJ : AG Try.prog BWE (C_ss.spec dGLt) := JX C_ss (λ _ => A_ss) [] [] CNJ (λ _ => by kernel_rfl) (λ _ => AB CKS AE) (λ (a : GL) h => by
 show V_ss a; rw [CQH]; simp only [CC, eq_self, implies_true, forall_const]
 exact h) (λ _ => KJ rfl rfl) _
end Go.Bal
