/- Package rating: the order of gaugings. -/
import Derived.Test.YtoihhodbkimedaaGreatRatQ
set_option linter.unusedVariables false
set_option linter.unusedSimpArgs false
namespace Go.Bal
open Go Go.Sym Go.Proofs
structure GAB where
 g : List Gau
 a : Int
 b : Int
def CP (g : List Gau) (x : Int) : Int := (gD g x.toNat).st
def bxG (g : List Gau) : AObj := .box [.d (AS g)]
def dGAB : List AVal -> Heap -> Option (GAB × List (Nat × Nat) × List Nat)
 | [.d x, .d y, .bptr id _], H => match H id with
  | .live (.box [.d (.list _ n h _)]) => some (⟨AE n λ i => TJ (h i), DH x, DH y⟩, [(100, id)], [])
  | _ => none
 | _, _ => none
def C_fw1 : Ctr := { ro := [100], α := GAB, xs := λ a => [.int a.a, .int a.b, .bptr 100 0], L := λ a => [(100, bxG a.g)], val := λ a => .int (HU (CP a.g a.a) (CP a.g a.b)), keep := λ a => [(100, .live (bxG a.g))], pre := λ a => [(0 <= a.a /\ a.a < a.g.length) /\ 0 <= a.b /\ a.b < a.g.length] }
def CQY : Ann := { ann 17 [(Zu, X4)] with E := [100] }
def CQJ (a : GAB) : Prop := AN Try.prog CQY E0 (AF E0) (C_fw1.xs a) (AC (C_fw1.L a)) (C_fw1.val a) (C_fw1.keep a) [] []
theorem CSY (a : GAB) : (CQJ a) = (((0 <= a.a /\ a.a < (↑a.g.length : Int)) /\ 0 <= a.b /\ a.b < (↑a.g.length : Int)) /\ HU (CP a.g a.a) (CP a.g a.b) = HU (gD a.g a.a.toNat).st (gD a.g a.b.toNat).st /\ a.g.length =
 a.g.length /\ ∀ (i : Nat), i < a.g.length -> (gD a.g i).st = (gD a.g i).st /\ (gD a.g i).lo = (gD a.g i).lo /\ (gD a.g i).hi = (gD a.g i).hi) := by kernel_rfl
def rowI (l : List Int) : AObj := .row 1 l.length λ i => CU (gD l i)
def CVP (n : Nat) (l : List Int) : AObj := .row 1 n λ i => CU (gD l i)
def swL (l : List Int) (j : Nat) : List Int := (l.set j (gD l (j + 1))).set (j + 1) (gD l j)
def insJ (key : Int -> Int) : Nat -> List Int -> List Int
 | 0, l => l
 | j + 1, l => bif decide (HU (key (gD l (j + 1))) (key (gD l j)) < 0) then insJ key j (swL l j) else l
def stR (key : Int -> Int) : Nat -> Nat -> List Int -> List Int
 | 0, _, l => l
 | n + 1, i, l => stR key n (i + 1) (insJ key i l)
def stM (key : Int -> Int) (l : List Int) : List Int := stR key (l.length - 1) 1 l
structure GL where
 g : List Gau
 l : List Int
 a : Int
 b : Int
structure IL2 where
 i : Nat
 l : List Int
 deriving Inhabited
structure IJL where
 i : Nat
 j : Nat
 l : List Int
 deriving Inhabited
def fnW1 : AVal := .fn (.func LV) [] [.bptr 101 0]
def glK (a : GL) (l : List Int) : List (Nat × HCell) := [(100, .live (CVP a.l.length l)), (101, .live (bxG a.g))]
def glIn (a : GL) (l : List Int) : Prop := l.length = a.l.length /\ ∀ i, i < a.l.length -> 0 <= gD l i /\ gD l i < a.g.length
def glOk (a : GL) : Prop := a.l.length < 1073741824 /\ ∀ i, i < a.l.length -> 0 <= gD a.l i /\ gD a.l i < a.g.length
def dGL : List AVal -> Heap -> Option (GL × List (Nat × Nat) × List Nat)
 | [.own id _ _ n, .d x, .d y, .fn (.func f) [] [.bptr c _]], H => if f = LV then match H id, H c with
  | .live (.row _ m r), .live (.box [.d (.list _ k h _)]) => some (⟨AE k λ i => TJ (h i), AE n λ i => DH (r i), DH x, DH y⟩, [(100, id), (101, c)], [])
  | _, _ => none else none
 | _, _ => none
def C_ins : Ctr := { ro := [101], α := GL, xs := λ a => [.own 100 1 0 a.l.length, .int a.a, .int a.b, fnW1], L := λ a => [(100, rowI a.l), (101, bxG a.g)], val := λ _ => .d (.tup []), keep := λ a => glK a (stM (CP a.g) a.l), pre := λ a => [(a.a = 0 /\ a.b = a.l.length) /\ glOk a] }
def ins1 (a : GL) : Shape := { α := IL2, dflt := default, T := λ x => ⟨[(0, .own 100 1 0 a.l.length), (1, .int 0), (2, .int a.l.length), (3, fnW1), (8, .int x.i)], glK a x.l⟩, inv := λ x => 1 <= x.i /\ (x.i <= a.l.length ∨ x.i = 1) /\ glIn a x.l /\ stM (CP a.g) a.l = stR (CP a.g) (a.l.length - x.i) x.i x.l, meas := λ x => a.l.length - x.i }
def ins4 (a : GL) (m : Nat) : Shape := { α := IJL, dflt := default, T := λ x => ⟨[(0, .own 100 1 0 a.l.length), (1, .int 0), (2, .int a.l.length), (3, fnW1), (8, .int x.i), (9, .int x.j)], glK a x.l⟩, inv := λ x => a.l.length - x.i = m /\ 1 <= x.i /\ x.i < a.l.length /\ x.j <= x.i /\ glIn a x.l /\ stM (CP a.g) a.l = stR (CP a.g) (a.l.length - (x.i + 1)) (x.i + 1) (insJ (CP a.g) x.j x.l), meas := λ x => x.j }
def COV (a : GL) : Ann := { ann 53 [(LV, C_fw1.spec dGAB)] with E := [100, 101], loops := λ id => if id = 1 then some [ins1 a] else none, inner := λ gs id => if id = 4 then some [ins4 a (gs.getD 0 0)] else none }
def COK (a : GL) : Prop := AN Try.prog (COV a) BSP (AF BSP) [.own 100 1 0 a.l.length, .int 0, .int a.l.length, fnW1] (AC (C_ins.L a)) (C_ins.val a) (C_ins.keep a) [] []
abbrev vZ : Prop := (0 : Nat) = (0 : Nat)
abbrev OY (a : GL) : Prop := a.l.length = a.l.length
abbrev wN : Prop := Int.ofNat (0 : Nat) = Int.ofNat (0 : Nat)
abbrev uZ (a : GL) : Prop := (↑a.l.length : Int) = (↑a.l.length : Int)
abbrev Uy (a : GL) : Prop := a.g.length = a.g.length /\ ∀ (i : Nat), i < a.g.length -> (gD a.g i).st = (gD a.g i).st /\ (gD a.g i).lo = (gD a.g i).lo /\ (gD a.g i).hi = (gD a.g i).hi
abbrev tJ (a : GL) (a1 : IL2) : Nat := a.l.length - a1.i
abbrev AIC (a : IL2) (a1 : GL) : Prop := (1 : Nat) <= a.i /\ (a.i <= a1.l.length ∨ a.i = (1 : Nat)) /\ (a.l.length = a1.l.length /\ ∀ (i : Nat), i < a1.l.length -> (0 : Int) <= gD a.l i /\ gD a.l i < (↑a1.g.length : Int)) /\
 stM (CP a1.g) a1.l = stR (CP a1.g) (tJ a1 a) a.i a.l
abbrev BCZ (a : IJL) : Nat := a.i + (1 : Nat)
abbrev AIA (a : GL) (a1 : IJL) (a2 : IL2) : Prop := a.l.length - a1.i = tJ a a2 /\ (1 : Nat) <= a1.i /\ a1.i < a.l.length /\ a1.j <= a1.i /\ (a1.l.length = a.l.length /\ ∀ (i : Nat), i < a.l.length -> (0 : Int) <= gD
 a1.l i /\ gD a1.l i < (↑a.g.length : Int)) /\ stM (CP a.g) a.l = stR (CP a.g) (a.l.length - BCZ a1) (BCZ a1) (insJ (CP a.g) a1.j a1.l)
abbrev BIP (a : IJL) : Bool := decide ((↑a.j : Int) > (0 : Int))
abbrev XM (a : IJL) : Prop := BIP a = true
abbrev qP (a : IJL) (a1 : GL) : Prop := (0 : Int) <= (↑a.j : Int) /\ (↑a.j : Int) < (↑a1.l.length : Int)
abbrev Pb (a : IJL) : Nat := (0 : Nat) + a.j
abbrev Jx (a : IJL) : Int := IntKind.i64.wrap ((↑a.j : Int) - (1 : Int))
abbrev uJ (a : IJL) (a1 : GL) : Prop := (0 : Int) <= Jx a /\ Jx a < (↑a1.l.length : Int)
abbrev Lp (a : IJL) : Nat := (0 : Nat) + (Jx a).toNat
abbrev AKF (a : IJL) (a1 : GL) : Prop := (Lp a).succ.le a1.l.length
abbrev RZ (a : IJL) : Int := gD a.l (Pb a)
abbrev SP (a : IJL) : Int := gD a.l (Lp a)
abbrev Mt (a : GL) : List Gau := AE a.g.length λ (i : Nat) => gD a.g i
abbrev XK (a : GL) : Nat := (Mt a).length
abbrev vM (a : GL) (i : Nat) : Gau := gD (Mt a) i
abbrev AXV (a : GL) (i : Nat) : Int := (vM a i).st
abbrev ASO (a : GL) (i : Nat) : Int := (vM a i).lo
abbrev AXH (a : GL) (i : Nat) : Int := (vM a i).hi
abbrev ALD (a : IJL) (a1 : GL) : Prop := Pb a < a1.l.length
theorem CRP (a : GL) : (COK a) = ((∃ (a_1 : IL2), (vZ /\ OY a /\ wN /\ uZ a /\ (↑a_1.i : Int) = IntKind.i64.wrap ((0 : Int) + (1 : Int)) /\ OY a /\ (∀ (i : Nat), i < a.l.length -> gD a_1.l i = gD
 a.l i) /\ Uy a) /\ AIC a_1 a) /\ ∀ (a_1 : IL2), AIC a_1 a -> bif decide ((↑a_1.i : Int) < (↑a.l.length : Int)) then (∃ (a_3 : IJL), (vZ /\ OY a /\ wN /\ uZ a /\ (↑a_3.i : Int) = (↑a_1.i : Int) /\
 (↑a_3.j : Int) = (↑a_1.i : Int) /\ OY a /\ (∀ (i : Nat), i < a.l.length -> gD a_3.l i = gD a_1.l i) /\ Uy a) /\ AIA a a_3 a_1) /\ ∀ (a_3 : IJL), AIA a a_3 a_1 -> ((XM a_3 -> qP a_3 a) /\ (XM
 a_3 -> (Pb a_3).succ.le a.l.length) /\ (XM a_3 -> uJ a_3 a) /\ (XM a_3 -> AKF a_3 a) /\ (XM a_3 -> RZ a_3 = RZ a_3 /\ SP a_3 = SP a_3 /\ XK a = a.g.length /\ (∀ (i :
 Nat), i < XK a -> AXV a i = (gD a.g i).st /\ ASO a i = (gD a.g i).lo /\ AXH a i = (gD a.g i).hi) /\ a.g.length = XK a /\ (∀ (i : Nat), i < a.g.length -> (gD a.g i).st = AXV a i /\ (gD a.g i).lo =
 ASO a i /\ (gD a.g i).hi = AXH a i) /\ ((0 : Int) <= RZ a_3 /\ RZ a_3 < (↑(XK a) : Int)) /\ (0 : Int) <= SP a_3 /\ SP a_3 < (↑(XK a) : Int))) /\ bif bif BIP a_3 then decide (HU
 (CP (Mt a) (RZ a_3)) (CP (Mt a) (SP a_3)) < (0 : Int)) else false then (uJ a_3 a /\ Lp a_3 < a.l.length /\ qP a_3 a /\ ALD a_3 a /\ qP a_3 a /\ ALD a_3 a /\
 uJ a_3 a /\ AKF a_3 a) /\ ∃ (a_5 : IJL), (vZ /\ OY a /\ wN /\ uZ a /\ (↑a_5.i : Int) = (↑a_3.i : Int) /\ (↑a_5.j : Int) = Jx a_3 /\ OY a /\ (∀ (i : Nat), i < a.l.length -> gD a_5.l i = bif
 decide (i = Lp a_3) then RZ a_3 else bif decide (i = Pb a_3) then SP a_3 else gD a_3.l i) /\ Uy a) /\ AIA a a_5 a_1 /\ a_5.j < a_3.j else ∃ (a_5 : IL2), (vZ /\ OY a /\ wN /\
 uZ a /\ (↑a_5.i : Int) = IntKind.i64.wrap ((↑a_3.i : Int) + (1 : Int)) /\ OY a /\ (∀ (i : Nat), i < a.l.length -> gD a_5.l i = gD a_3.l i) /\ Uy a) /\ AIC a_5 a /\ tJ a a_5 < tJ a a_1 else OY a
 /\ (∀ (i : Nat), i < a.l.length -> gD (stM (CP a.g) a.l) i = gD a_1.l i) /\ Uy a) := by kernel_rfl
def dGLs : List AVal -> Heap -> Option (GL × List (Nat × Nat) × List Nat)
 | [.own id _ _ n, .d x, .fn (.func f) [] [.bptr c _]], H => if f = LV then match H id, H c with
  | .live (.row _ m r), .live (.box [.d (.list _ k h _)]) => some (⟨AE k λ i => TJ (h i), AE n λ i => DH (r i), DH x, 0⟩, [(100, id), (101, c)], [])
  | _, _ => none else none
 | _, _ => none
def C_stb : Ctr := { ro := [101], α := GL, xs := λ a => [.own 100 1 0 a.l.length, .int a.a, fnW1], L := λ a => [(100, rowI a.l), (101, bxG a.g)], val := λ _ => .d (.tup []), keep := λ a => glK a (stM (CP a.g) a.l), pre := λ a => [(a.a = a.l.length /\ a.l.length < 20) /\ glOk a] }
def sb (a : GL) (l : List Int) (r : List (Nat × AVal)) : Shape := { α := One, dflt := default, T := λ _ => ⟨[(0, .own 100 1 0 a.l.length), (1, .int a.l.length), (2, fnW1), (6, .int 20)] ++ r, glK a l⟩, inv := λ _ => True, meas := λ _ => 0 }
def CPA (a : GL) : Ann := { ann 63 [(BDH, C_ins.spec dGL)] with E := [100, 101], loops := λ id => if id = 2 then some [sb a a.l [(7, .int 0), (8, .int 20)]] else if id = 7 then some [sb a (stM (CP a.g) a.l) []] else none }
def CQD (a : GL) : Prop := AN Try.prog (CPA a) CCM (AF CCM) [.own 100 1 0 a.l.length, .int a.l.length, fnW1] (AC (C_stb.L a)) (C_stb.val a) (C_stb.keep a) [] []
abbrev Vw : Prop := (0 : Nat) = (0 : Nat)
abbrev Xy (a : GL) : Prop := a.l.length = a.l.length
abbrev qC (a : GL) : Prop := (↑a.l.length : Int) = (↑a.l.length : Int)
abbrev tK : Prop := Int.ofNat (20 : Nat) = Int.ofNat (20 : Nat)
abbrev oO (a : GL) : Prop := a.g.length = a.g.length /\ ∀ (i : Nat), i < a.g.length -> (gD a.g i).st = (gD a.g i).st /\ (gD a.g i).lo = (gD a.g i).lo /\ (gD a.g i).hi = (gD a.g i).hi
abbrev AHW (a : GL) : List Int := AE a.l.length λ (i : Nat) => gD a.l i
abbrev Hy (a : GL) : Nat := (AHW a).length
abbrev tI (a : GL) : Prop := Hy a = a.l.length
abbrev oD : Prop := (0 : Int) = Int.ofNat (0 : Nat)
abbrev BDI (i : Nat) (a : GL) : Prop := i < Hy a
abbrev vD (a : GL) (i : Nat) : Int := gD (AHW a) i
abbrev ARW (a : GL) : Prop := ∀ (i : Nat), BDI i a -> vD a i = gD a.l i
abbrev xM (a : GL) : List Gau := AE a.g.length λ (i : Nat) => gD a.g i
abbrev Ka (a : GL) : Nat := (xM a).length
abbrev AOJ (a : GL) : Prop := Ka a = a.g.length
abbrev qO (a : GL) (i : Nat) : Gau := gD (xM a) i
abbrev ASX (a : GL) (i : Nat) : Int := (qO a i).st
abbrev ANE (a : GL) (i : Nat) : Int := (qO a i).lo
abbrev AUL (a : GL) (i : Nat) : Int := (qO a i).hi
abbrev ASI (a : GL) : Prop := ∀ (i : Nat), i < Ka a -> ASX a i = (gD a.g i).st /\ ANE a i = (gD a.g i).lo /\ AUL a i = (gD a.g i).hi
abbrev AWL (a : GL) : Prop := a.g.length = Ka a
abbrev AVA (a : GL) : Prop := ∀ (i : Nat), i < a.g.length -> (gD a.g i).st = ASX a i /\ (gD a.g i).lo = ANE a i /\ (gD a.g i).hi = AUL a i
abbrev AQP (a : GL) : Prop := Hy a < (1073741824 : Nat) /\ ∀ (i : Nat), BDI i a -> (0 : Int) <= vD a i /\ vD a i < (↑(Ka a) : Int)
abbrev AZO (a : GL) : Prop := a.l.length = Hy a
abbrev ATD (a : GL) (i : Nat) : Int := gD (stM (CP (xM a)) (AHW a)) i
abbrev sF (a : GL) (i : Nat) : Int := gD (stM (CP a.g) a.l) i
theorem CRK (a : GL) : (CQD a) = ((∃ (a_1 : One), (Vw /\ Xy a /\ qC a /\ tK /\ Int.ofNat (0 : Nat) = Int.ofNat (0 : Nat) /\ tK /\ Xy a /\ (∀ (i : Nat), i < a.l.length -> gD a.l i = gD a.l i) /\
 oO a) /\ True) /\ ∀ (a_1 : One), True -> bif decide ((20 : Int) <= (↑a.l.length : Int)) then (Vw /\ tI a /\ oD /\ (20 : Int) = Int.ofNat (20 : Nat) /\ tI a /\ ARW a /\ AOJ a /\ ASI a /\
 AWL a /\ AVA a /\ (oD /\ (20 : Int) = (↑(Hy a) : Int)) /\ AQP a) /\ ∃ (a_3 : One), (Vw /\ Xy a /\ qC a /\ tK /\ Int.ofNat (0 : Nat) = Int.ofNat (20 : Nat) /\ Int.ofNat (20 : Nat) =
 Int.ofNat (((20 : Nat) + (20 : Nat)) % ((2 : Int) ^ IntKind.i64.bits).natAbs) /\ AZO a /\ (∀ (i : Nat), i < a.l.length -> gD a.l i = ATD a i) /\ oO a) /\ True /\ (0 : Nat) < (0 : Nat) else (Vw /\ tI a /\
 oD /\ qC a /\ tI a /\ ARW a /\ AOJ a /\ ASI a /\ AWL a /\ AVA a /\ (oD /\ (↑a.l.length : Int) = (↑(Hy a) : Int)) /\ AQP a) /\ (∃ (a_3 : One), (Vw /\ Xy a /\ qC a /\
 tK /\ AZO a /\ (∀ (i : Nat), i < a.l.length -> sF a i = ATD a i) /\ oO a) /\ True) /\ ∀ (a_3 : One), True -> bif decide ((20 : Int) < (↑a.l.length : Int)) then False else Xy a /\ (∀ (i : Nat), i <
 a.l.length -> sF a i = sF a i) /\ oO a) := by kernel_rfl
def dGLt : List AVal -> Heap -> Option (GL × List (Nat × Nat) × List Nat)
 | [.own id _ _ n, .fn (.func f) [] [.bptr c _]], H => if f = LV then match H id, H c with
  | .live (.row _ m r), .live (.box [.d (.list _ k h _)]) => some (⟨AE k λ i => TJ (h i), AE n λ i => DH (r i), 0, 0⟩, [(100, id), (101, c)], [])
  | _, _ => none else none
 | _, _ => none
def C_ss : Ctr := { ro := [101], α := GL, xs := λ a => [.own 100 1 0 a.l.length, fnW1], L := λ a => [(100, rowI a.l), (101, bxG a.g)], val := λ _ => .d (.tup []), keep := λ a => glK a (stM (CP a.g) a.l), pre := λ a => [a.l.length < 20 /\ glOk a] }
def A_ss : Ann := { ann 9 [(BUB, C_stb.spec dGLs)] with E := [100, 101] }
def V_ss (a : GL) : Prop := AN Try.prog A_ss BZT (AF BZT) (C_ss.xs a) (AC (C_ss.L a)) (C_ss.val a) (C_ss.keep a) [] []
theorem CVJ (a : GL) : (V_ss a) = ((0 = 0 /\ (AE a.l.length λ (i : Nat) => gD a.l i).length = a.l.length /\ (↑a.l.length : Int) = (↑a.l.length : Int) /\ (AE a.l.length λ (i : Nat) => gD a.l i).length = a.l.length /\
 (∀ (i : Nat), i < (AE a.l.length λ (i : Nat) => gD a.l i).length -> gD (AE a.l.length λ (i : Nat) => gD a.l i) i = gD a.l i) /\ (AE a.g.length λ (i : Nat) => gD a.g i).length = a.g.length /\ (∀ (i : Nat), i < (AE
 a.g.length λ (i : Nat) => gD a.g i).length -> (gD (AE a.g.length λ (i : Nat) => gD a.g i) i).st = (gD a.g i).st /\ (gD (AE a.g.length λ (i : Nat) => gD a.g i) i).lo = (gD a.g i).lo /\ (gD (AE a.g.length λ (i :
 Nat) => gD a.g i) i).hi = (gD a.g i).hi) /\ a.g.length = (AE a.g.length λ (i : Nat) => gD a.g i).length /\ (∀ (i : Nat), i < a.g.length -> (gD a.g i).st = (gD (AE a.g.length λ (i : Nat) => gD a.g i) i).st /\ (gD a.g
 i).lo = (gD (AE a.g.length λ (i : Nat) => gD a.g i) i).lo /\ (gD a.g i).hi = (gD (AE a.g.length λ (i : Nat) => gD a.g i) i).hi) /\ ((↑a.l.length : Int) = (↑(AE a.l.length λ (i : Nat) => gD a.l i).length : Int) /\
 (AE a.l.length λ (i : Nat) => gD a.l i).length < 20) /\ (AE a.l.length λ (i : Nat) => gD a.l i).length < 1073741824 /\ ∀ (i : Nat), i < (AE a.l.length λ (i : Nat) => gD a.l i).length -> 0 <= gD (AE a.l.length fun
 (i : Nat) => gD a.l i) i /\ gD (AE a.l.length λ (i : Nat) => gD a.l i) i < (↑(AE a.g.length λ (i : Nat) => gD a.g i).length : Int)) /\ a.l.length = (AE a.l.length λ (i : Nat) => gD a.l i).length /\ (∀ (i : Nat), i
 < a.l.length -> gD (stM (CP a.g) a.l) i = gD (stM (CP (AE a.g.length λ (i : Nat) => gD a.g i)) (AE a.l.length λ (i : Nat) => gD a.l i)) i) /\ a.g.length = a.g.length /\ ∀ (i : Nat), i < a.g.length -> (gD a.g i).st
 = (gD a.g i).st /\ (gD a.g i).lo = (gD a.g i).lo /\ (gD a.g i).hi = (gD a.g i).hi) := by kernel_rfl
theorem CTI : AG Try.prog LV (C_fw1.spec dGAB) := HR C_fw1 (λ _ => CQY) [] [] BOV (λ _ => by kernel_rfl) (λ _ => AB BKR AD) (λ (a : GAB) h => by
 show CQJ a; rw [CSY]; simp only [CC, eq_self, implies_true, forall_const]
 exact ⟨h, rfl⟩) (λ _ => IN rfl rfl) _
theorem BSV {l : List Int} {j i : Nat} {x : Int} (hj : j < l.length) : gD (l.set j x) i = bif decide (i = j) then x else gD l i := by
 unfold gD
 rw [List.getD_eq_getElem?_getD, List.getD_eq_getElem?_getD, List.getElem?_set]
 by_cases h : i = j
 ·subst h; simp [hj]
 ·simp [h, Ne.symm h]
theorem ATC {l : List Int} {j i : Nat} (hj : j + 1 < l.length) : gD (swL l j) i = bif decide (i = j) then gD l (j + 1) else bif decide (i = j + 1) then gD l j else gD l i := by
 unfold swL
 rw [BSV (by simpa using hj), BSV (by omega)]
 by_cases h : i = j
 ·subst h; simp
 ·simp [h]
theorem AWK (l : List Int) (j : Nat) : (swL l j).length = l.length := by simp [swL]
theorem CXL (a : GL) (h : glOk a) : COK a := by
 rw [CRP]; delta vZ OY wN uZ Uy tJ AIC BCZ AIA BIP XM qP Pb Jx uJ Lp AKF RZ SP Mt XK vM AXV ASO AXH ALD; simp only [CC, eq_self, implies_true, forall_const]
 obtain ⟨hlen, hin⟩ := h
 refine ⟨⟨⟨1, a.l⟩, ⟨by show (1 : Int) = _; rw [EV (by omega) (by omega)]; rfl, λ _ _ => rfl⟩, Nat.one_pos, .inr rfl, ⟨rfl, hin⟩, rfl⟩, λ x ⟨x1, x2, ⟨x3, x4⟩, x5⟩ => ⟨λ hlt => ⟨⟨⟨x.i, x.i, x.l⟩, ⟨rfl, rfl, λ _ _ => rfl⟩, rfl, x1, Int.ofNat_lt.1 hlt, Nat.le_refl _, ⟨x3, x4⟩, ?_⟩, λ y ⟨y1, y2, y3, y4, ⟨y5, y6⟩, y7⟩ => ?_⟩, λ hge => ?_⟩⟩
 ·rw [x5, show a.l.length - x.i = (a.l.length - (x.i + 1)) + 1 by omega]; rfl
 ·refine ⟨⟨λ _ => ⟨by omega, by omega⟩, λ _ => by omega, λ hj => ?_, λ hj => ?_, λ hj => ⟨y6 _ (by omega), ?_⟩⟩, λ hc => ?_, λ hc => ?_⟩
  ·rw [EV (by omega) (by omega)]; omega
  ·rw [EV (by omega) (by omega)]; omega
  ·rw [EV (by omega) (by omega)]; exact y6 _ (by omega)
  ·have hj : 0 < y.j := by
    cases hd : decide ((y.j : Int) > 0) with
    | false => rw [hd] at hc; cases hc
    | true => have := of_decide_eq_true hd; omega
   obtain ⟨j, hj2⟩ : ∃ j, y.j = j + 1 := ⟨y.j - 1, by omega⟩
   have e : IntKind.i64.wrap ((y.j : Int) - 1) = (j : Nat) := by rw [EV (by omega) (by omega)]; omega
   rw [decide_eq_true (show (y.j : Int) > 0 by omega)] at hc
   have hc : decide (HU (CP a.g (gD y.l y.j)) (CP a.g (gD y.l (IntKind.i64.wrap ((y.j : Int) - 1)).toNat)) < 0) = true := hc
   rw [e] at hc ⊢
   simp only [Int.toNat_natCast] at hc ⊢
   refine ⟨⟨⟨by omega, by omega⟩, by omega, ⟨by omega, by omega⟩, by omega, ⟨by omega, by omega⟩, by omega, ⟨by omega, by omega⟩, by omega⟩, ⟨y.i, j, swL y.l j⟩, ⟨rfl, rfl, λ i hi => ?_⟩, ⟨y1, y2, y3, by show j <= y.i; omega, ⟨by rw [AWK]; exact y5, λ i hi => ?_⟩, ?_⟩, by show j < _; omega⟩
   ·show gD (swL y.l j) i = _
    rw [ATC (by omega), hj2]
   ·show 0 <= gD (swL y.l j) i /\ gD (swL y.l j) i < _
    rw [ATC (by omega)]
    cases decide (i = j)
    ·cases decide (i = j + 1)
     ·exact y6 i hi
     ·exact y6 j (by omega)
    ·exact y6 (j + 1) (by omega)
   ·rw [hj2] at hc y7
    unfold insJ at y7
    rw [hc] at y7; exact y7
  ·have hq : insJ (CP a.g) y.j y.l = y.l := by
    cases hd : decide ((y.j : Int) > 0) with
    | false =>
     have := of_decide_eq_false hd
     rw [show y.j = 0 by omega]; rfl
    | true =>
     have hj := of_decide_eq_true hd
     obtain ⟨j, hj2⟩ : ∃ j, y.j = j + 1 := ⟨y.j - 1, by omega⟩
     have e : IntKind.i64.wrap ((y.j : Int) - 1) = (j : Nat) := by rw [EV (by omega) (by omega)]; omega
     rw [hd] at hc
     have hc : decide (HU (CP a.g (gD y.l y.j)) (CP a.g (gD y.l (IntKind.i64.wrap ((y.j : Int) - 1)).toNat)) < 0) = false := hc
     rw [e, hj2] at hc
     simp only [Int.toNat_natCast] at hc
     rw [hj2]; unfold insJ; rw [hc]; rfl
   rw [hq] at y7
   refine ⟨⟨y.i + 1, y.l⟩, ⟨(BF (by omega)).symm, λ _ _ => rfl⟩, ⟨by show 0 < y.i + 1; omega, .inl (by show y.i + 1 <= _; omega), ⟨y5, y6⟩, y7⟩, by show a.l.length - (y.i + 1) < _; omega⟩
 ·intro i hi
  rw [x5, show a.l.length - x.i = 0 by omega]; rfl
theorem CTZ : AG Try.prog BDH (C_ins.spec dGL) := okT C_ins (λ (a : GL) h => by
 obtain ⟨⟨ha, hb⟩, h⟩ : (a.a = 0 /\ a.b = a.l.length) /\ glOk a := h
 show FnT Try.prog BDH [.own 100 1 0 a.l.length, .int a.a, .int a.b, fnW1] _ _ _
 rw [ha, hb]
 exact KZ (A := COV a) (L := C_ins.L a) (keep := C_ins.keep a) (ren := []) (fz := []) CKQ (by kernel_rfl) (AB CTI AD) (CXL a h)) _
theorem CTN : AG Try.prog BUB (C_stb.spec dGLs) := okT C_stb (λ (a : GL) h => by
 obtain ⟨⟨ha, hb⟩, h⟩ : (a.a = a.l.length /\ a.l.length < 20) /\ glOk a := h
 show FnT Try.prog BUB [.own 100 1 0 a.l.length, .int a.a, fnW1] _ _ _
 rw [ha]
 refine KZ (A := CPA a) (L := C_stb.L a) (keep := C_stb.keep a) (ren := []) (fz := []) CTD (by kernel_rfl) (AB CTZ AD) ?_
 show CQD a
 rw [CRK]; delta Vw Xy qC tK oO AHW Hy tI oD BDI vD ARW xM Ka AOJ qO ASX ANE AUL ASI AWL AVA AQP AZO ATD sF; simp only [CC, eq_self, implies_true, forall_const]
 exact ⟨⟨default, trivial⟩, λ hc => by omega, λ _ => ⟨⟨rfl, rfl, h⟩, ⟨default, trivial⟩, λ hc => by omega⟩⟩) _
theorem CUX : AG Try.prog CAN (C_ss.spec dGLt) := HR C_ss (λ _ => A_ss) [] [] CUC (λ _ => by kernel_rfl) (λ _ => AB CTN AD) (λ (a : GL) h => by
 show V_ss a; rw [CVJ]; simp only [CC, eq_self, implies_true, forall_const]
 exact h) (λ _ => IN rfl rfl) _
end Go.Bal
