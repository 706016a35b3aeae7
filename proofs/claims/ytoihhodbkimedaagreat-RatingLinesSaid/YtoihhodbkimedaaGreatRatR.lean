/- Package rating: the order of gaugings. -/
import Derived.Test.YtoihhodbkimedaaGreatRatQ
set_option linter.unusedVariables false
set_option linter.unusedSimpArgs false
namespace Go.Bal
open Go Go.Sym Go.Proofs
structure GAB where
 g : List Gau
 a : Int
 b : Int
def CV (g : List Gau) (x : Int) : Int := (gD g x.toNat).st
def bxG (g : List Gau) : AObj := .box [.d (BE g)]
def dGAB : List AVal -> Heap -> Option (GAB × List (Nat × Nat) × List Nat)
 | [.d x, .d y, .bptr id _], H => match H id with
  | .live (.box [.d (.list _ n h _)]) => some (⟨AD n λ i => SD (h i), CT x, CT y⟩, [(100, id)], [])
  | _ => none
 | _, _ => none
def C_fw1 : Ctr := { ro := [100], α := GAB, xs := λ a => [.int a.a, .int a.b, .bptr 100 0], L := λ a => [(100, bxG a.g)], val := λ a => .int (JH (CV a.g a.a) (CV a.g a.b)), keep := λ a => [(100, .live (bxG a.g))], pre := λ a => [(0 <= a.a /\ a.a < a.g.length) /\ 0 <= a.b /\ a.b < a.g.length] }
def BQN : Ann := { ann 17 [(Sn, uK)] with E := [100] }
def BRY (a : GAB) : Prop := AO Try.prog BQN xT (AF xT) (C_fw1.xs a) (AC (C_fw1.L a)) (C_fw1.val a) (C_fw1.keep a) [] []
theorem BVM (a : GAB) : (BRY a) = (((0 <= a.a /\ a.a < (↑a.g.length : Int)) /\ 0 <= a.b /\ a.b < (↑a.g.length : Int)) /\ JH (CV a.g a.a) (CV a.g a.b) = JH (gD a.g a.a.toNat).st (gD a.g a.b.toNat).st /\ a.g.length =
 a.g.length /\ ∀ (i : Nat), i < a.g.length -> (gD a.g i).st = (gD a.g i).st /\ (gD a.g i).lo = (gD a.g i).lo /\ (gD a.g i).hi = (gD a.g i).hi) := by kernel_rfl
def rowI (l : List Int) : AObj := .row 1 l.length λ i => CH (gD l i)
def BWQ (n : Nat) (l : List Int) : AObj := .row 1 n λ i => CH (gD l i)
def swL (l : List Int) (j : Nat) : List Int := (l.set j (gD l (j + 1))).set (j + 1) (gD l j)
def insJ (key : Int -> Int) : Nat -> List Int -> List Int
 | 0, l => l
 | j + 1, l => bif decide (JH (key (gD l (j + 1))) (key (gD l j)) < 0) then insJ key j (swL l j) else l
def stR (key : Int -> Int) : Nat -> Nat -> List Int -> List Int
 | 0, _, l => l
 | n + 1, i, l => stR key n (i + 1) (insJ key i l)
def stM (key : Int -> Int) (l : List Int) : List Int := stR key (l.length - 1) 1 l
structure GL where
 g : List Gau
 l : List Int
 a : Int
 b : Int
structure IL2 where
 i : Nat
 l : List Int
 deriving Inhabited
structure IJL where
 i : Nat
 j : Nat
 l : List Int
 deriving Inhabited
def fnW1 : AVal := .fn (.func KE) [] [.bptr 101 0]
def glK (a : GL) (l : List Int) : List (Nat × HCell) := [(100, .live (BWQ a.l.length l)), (101, .live (bxG a.g))]
def glIn (a : GL) (l : List Int) : Prop := l.length = a.l.length /\ ∀ i, i < a.l.length -> 0 <= gD l i /\ gD l i < a.g.length
def glOk (a : GL) : Prop := a.l.length < 1073741824 /\ ∀ i, i < a.l.length -> 0 <= gD a.l i /\ gD a.l i < a.g.length
def dGL : List AVal -> Heap -> Option (GL × List (Nat × Nat) × List Nat)
 | [.own id _ _ n, .d x, .d y, .fn (.func f) [] [.bptr c _]], H => if f = KE then match H id, H c with
  | .live (.row _ m r), .live (.box [.d (.list _ k h _)]) => some (⟨AD k λ i => SD (h i), AD n λ i => CT (r i), CT x, CT y⟩, [(100, id), (101, c)], [])
  | _, _ => none else none
 | _, _ => none
def C_ins : Ctr := { ro := [101], α := GL, xs := λ a => [.own 100 1 0 a.l.length, .int a.a, .int a.b, fnW1], L := λ a => [(100, rowI a.l), (101, bxG a.g)], val := λ _ => .d (.tup []), keep := λ a => glK a (stM (CV a.g) a.l), pre := λ a => [(a.a = 0 /\ a.b = a.l.length) /\ glOk a] }
def ins1 (a : GL) : Shape := { α := IL2, dflt := default, T := λ x => ⟨[(0, .own 100 1 0 a.l.length), (1, .int 0), (2, .int a.l.length), (3, fnW1), (8, .int x.i)], glK a x.l⟩, inv := λ x => 1 <= x.i /\ (x.i <= a.l.length ∨ x.i = 1) /\ glIn a x.l /\ stM (CV a.g) a.l = stR (CV a.g) (a.l.length - x.i) x.i x.l, meas := λ x => a.l.length - x.i }
def ins4 (a : GL) (m : Nat) : Shape := { α := IJL, dflt := default, T := λ x => ⟨[(0, .own 100 1 0 a.l.length), (1, .int 0), (2, .int a.l.length), (3, fnW1), (8, .int x.i), (9, .int x.j)], glK a x.l⟩, inv := λ x => a.l.length - x.i = m /\ 1 <= x.i /\ x.i < a.l.length /\ x.j <= x.i /\ glIn a x.l /\ stM (CV a.g) a.l = stR (CV a.g) (a.l.length - (x.i + 1)) (x.i + 1) (insJ (CV a.g) x.j x.l), meas := λ x => x.j }
def BRF (a : GL) : Ann := { ann 53 [(KE, C_fw1.spec dGAB)] with E := [100, 101], loops := λ id => if id = 1 then some [ins1 a] else none, inner := λ gs id => if id = 4 then some [ins4 a (gs.getD 0 0)] else none }
def BSO (a : GL) : Prop := AO Try.prog (BRF a) AVH (AF AVH) [.own 100 1 0 a.l.length, .int 0, .int a.l.length, fnW1] (AC (C_ins.L a)) (C_ins.val a) (C_ins.keep a) [] []
abbrev fG : Prop := (0 : Nat) = (0 : Nat)
abbrev NA (a : GL) : Prop := a.l.length = a.l.length
abbrev kI : Prop := Int.ofNat (0 : Nat) = Int.ofNat (0 : Nat)
abbrev iB (a : GL) : Prop := (↑a.l.length : Int) = (↑a.l.length : Int)
abbrev Oy (a : GL) : Prop := a.g.length = a.g.length /\ ∀ (i : Nat), i < a.g.length -> (gD a.g i).st = (gD a.g i).st /\ (gD a.g i).lo = (gD a.g i).lo /\ (gD a.g i).hi = (gD a.g i).hi
abbrev eV (a : GL) (a1 : IL2) : Nat := a.l.length - a1.i
abbrev F6 (a : IL2) (a1 : GL) : Prop := (1 : Nat) <= a.i /\ (a.i <= a1.l.length ∨ a.i = (1 : Nat)) /\ (a.l.length = a1.l.length /\ ∀ (i : Nat), i < a1.l.length -> (0 : Int) <= gD a.l i /\ gD a.l i < (↑a1.g.length : Int)) /\
 stM (CV a1.g) a1.l = stR (CV a1.g) (eV a1 a) a.i a.l
abbrev APS (a : IJL) : Nat := a.i + (1 : Nat)
abbrev M8 (a : GL) (a1 : IJL) (a2 : IL2) : Prop := a.l.length - a1.i = eV a a2 /\ (1 : Nat) <= a1.i /\ a1.i < a.l.length /\ a1.j <= a1.i /\ (a1.l.length = a.l.length /\ ∀ (i : Nat), i < a.l.length -> (0 : Int) <= gD
 a1.l i /\ gD a1.l i < (↑a.g.length : Int)) /\ stM (CV a.g) a.l = stR (CV a.g) (a.l.length - APS a1) (APS a1) (insJ (CV a.g) a1.j a1.l)
abbrev ALE (a : IJL) : Bool := decide ((↑a.j : Int) > (0 : Int))
abbrev TX (a : IJL) : Prop := ALE a = true
abbrev jZ (a : IJL) (a1 : GL) : Prop := (0 : Int) <= (↑a.j : Int) /\ (↑a.j : Int) < (↑a1.l.length : Int)
abbrev Fa (a : IJL) : Nat := (0 : Nat) + a.j
abbrev He (a : IJL) : Int := IntKind.i64.wrap ((↑a.j : Int) - (1 : Int))
abbrev lO (a : IJL) (a1 : GL) : Prop := (0 : Int) <= He a /\ He a < (↑a1.l.length : Int)
abbrev Ht (a : IJL) : Nat := (0 : Nat) + (He a).toNat
abbrev AGB (a : IJL) (a1 : GL) : Prop := (Ht a).succ.le a1.l.length
abbrev PU (a : IJL) : Int := gD a.l (Fa a)
abbrev RE (a : IJL) : Int := gD a.l (Ht a)
abbrev Ki (a : GL) : List Gau := AD a.g.length λ (i : Nat) => gD a.g i
abbrev WZ (a : GL) : Nat := (Ki a).length
abbrev kN (a : GL) (i : Nat) : Gau := gD (Ki a) i
abbrev V3 (a : GL) (i : Nat) : Int := (kN a i).st
abbrev S7 (a : GL) (i : Nat) : Int := (kN a i).lo
abbrev X3 (a : GL) (i : Nat) : Int := (kN a i).hi
abbrev AGX (a : IJL) (a1 : GL) : Prop := Fa a < a1.l.length
theorem BUZ (a : GL) : (BSO a) = ((∃ (a_1 : IL2), (fG /\ NA a /\ kI /\ iB a /\ (↑a_1.i : Int) = IntKind.i64.wrap ((0 : Int) + (1 : Int)) /\ NA a /\ (∀ (i : Nat), i < a.l.length -> gD a_1.l i = gD
 a.l i) /\ Oy a) /\ F6 a_1 a) /\ ∀ (a_1 : IL2), F6 a_1 a -> bif decide ((↑a_1.i : Int) < (↑a.l.length : Int)) then (∃ (a_3 : IJL), (fG /\ NA a /\ kI /\ iB a /\ (↑a_3.i : Int) = (↑a_1.i : Int) /\
 (↑a_3.j : Int) = (↑a_1.i : Int) /\ NA a /\ (∀ (i : Nat), i < a.l.length -> gD a_3.l i = gD a_1.l i) /\ Oy a) /\ M8 a a_3 a_1) /\ ∀ (a_3 : IJL), M8 a a_3 a_1 -> ((TX a_3 -> jZ a_3 a) /\ (TX
 a_3 -> (Fa a_3).succ.le a.l.length) /\ (TX a_3 -> lO a_3 a) /\ (TX a_3 -> AGB a_3 a) /\ (TX a_3 -> PU a_3 = PU a_3 /\ RE a_3 = RE a_3 /\ WZ a = a.g.length /\ (∀ (i :
 Nat), i < WZ a -> V3 a i = (gD a.g i).st /\ S7 a i = (gD a.g i).lo /\ X3 a i = (gD a.g i).hi) /\ a.g.length = WZ a /\ (∀ (i : Nat), i < a.g.length -> (gD a.g i).st = V3 a i /\ (gD a.g i).lo =
 S7 a i /\ (gD a.g i).hi = X3 a i) /\ ((0 : Int) <= PU a_3 /\ PU a_3 < (↑(WZ a) : Int)) /\ (0 : Int) <= RE a_3 /\ RE a_3 < (↑(WZ a) : Int))) /\ bif bif ALE a_3 then decide (JH
 (CV (Ki a) (PU a_3)) (CV (Ki a) (RE a_3)) < (0 : Int)) else false then (lO a_3 a /\ Ht a_3 < a.l.length /\ jZ a_3 a /\ AGX a_3 a /\ jZ a_3 a /\ AGX a_3 a /\
 lO a_3 a /\ AGB a_3 a) /\ ∃ (a_5 : IJL), (fG /\ NA a /\ kI /\ iB a /\ (↑a_5.i : Int) = (↑a_3.i : Int) /\ (↑a_5.j : Int) = He a_3 /\ NA a /\ (∀ (i : Nat), i < a.l.length -> gD a_5.l i = bif
 decide (i = Ht a_3) then PU a_3 else bif decide (i = Fa a_3) then RE a_3 else gD a_3.l i) /\ Oy a) /\ M8 a a_5 a_1 /\ a_5.j < a_3.j else ∃ (a_5 : IL2), (fG /\ NA a /\ kI /\
 iB a /\ (↑a_5.i : Int) = IntKind.i64.wrap ((↑a_3.i : Int) + (1 : Int)) /\ NA a /\ (∀ (i : Nat), i < a.l.length -> gD a_5.l i = gD a_3.l i) /\ Oy a) /\ F6 a_5 a /\ eV a a_5 < eV a a_1 else NA a
 /\ (∀ (i : Nat), i < a.l.length -> gD (stM (CV a.g) a.l) i = gD a_1.l i) /\ Oy a) := by kernel_rfl
def dGLs : List AVal -> Heap -> Option (GL × List (Nat × Nat) × List Nat)
 | [.own id _ _ n, .d x, .fn (.func f) [] [.bptr c _]], H => if f = KE then match H id, H c with
  | .live (.row _ m r), .live (.box [.d (.list _ k h _)]) => some (⟨AD k λ i => SD (h i), AD n λ i => CT (r i), CT x, 0⟩, [(100, id), (101, c)], [])
  | _, _ => none else none
 | _, _ => none
def C_stb : Ctr := { ro := [101], α := GL, xs := λ a => [.own 100 1 0 a.l.length, .int a.a, fnW1], L := λ a => [(100, rowI a.l), (101, bxG a.g)], val := λ _ => .d (.tup []), keep := λ a => glK a (stM (CV a.g) a.l), pre := λ a => [(a.a = a.l.length /\ a.l.length < 20) /\ glOk a] }
def sb (a : GL) (l : List Int) (r : List (Nat × AVal)) : Shape := { α := One, dflt := default, T := λ _ => ⟨[(0, .own 100 1 0 a.l.length), (1, .int a.l.length), (2, fnW1), (6, .int 20)] ++ r, glK a l⟩, inv := λ _ => True, meas := λ _ => 0 }
def BRV (a : GL) : Ann := { ann 63 [(ARD, C_ins.spec dGL)] with E := [100, 101], loops := λ id => if id = 2 then some [sb a a.l [(7, .int 0), (8, .int 20)]] else if id = 7 then some [sb a (stM (CV a.g) a.l) []] else none }
def BSM (a : GL) : Prop := AO Try.prog (BRV a) BEO (AF BEO) [.own 100 1 0 a.l.length, .int a.l.length, fnW1] (AC (C_stb.L a)) (C_stb.val a) (C_stb.keep a) [] []
abbrev Na : Prop := (0 : Nat) = (0 : Nat)
abbrev Ld (a : GL) : Prop := a.l.length = a.l.length
abbrev kO (a : GL) : Prop := (↑a.l.length : Int) = (↑a.l.length : Int)
abbrev iF : Prop := Int.ofNat (20 : Nat) = Int.ofNat (20 : Nat)
abbrev lL (a : GL) : Prop := a.g.length = a.g.length /\ ∀ (i : Nat), i < a.g.length -> (gD a.g i).st = (gD a.g i).st /\ (gD a.g i).lo = (gD a.g i).lo /\ (gD a.g i).hi = (gD a.g i).hi
abbrev I6 (a : GL) : List Int := AD a.l.length λ (i : Nat) => gD a.l i
abbrev YR (a : GL) : Nat := (I6 a).length
abbrev kD (a : GL) : Prop := YR a = a.l.length
abbrev gA : Prop := (0 : Int) = Int.ofNat (0 : Nat)
abbrev ANE (i : Nat) (a : GL) : Prop := i < YR a
abbrev iK (a : GL) (i : Nat) : Int := gD (I6 a) i
abbrev AHY (a : GL) : Prop := ∀ (i : Nat), ANE i a -> iK a i = gD a.l i
abbrev iV (a : GL) : List Gau := AD a.g.length λ (i : Nat) => gD a.g i
abbrev Fd (a : GL) : Nat := (iV a).length
abbrev AIZ (a : GL) : Prop := Fd a = a.g.length
abbrev eP (a : GL) (i : Nat) : Gau := gD (iV a) i
abbrev W0 (a : GL) (i : Nat) : Int := (eP a i).st
abbrev AEA (a : GL) (i : Nat) : Int := (eP a i).lo
abbrev ACQ (a : GL) (i : Nat) : Int := (eP a i).hi
abbrev AHA (a : GL) : Prop := ∀ (i : Nat), i < Fd a -> W0 a i = (gD a.g i).st /\ AEA a i = (gD a.g i).lo /\ ACQ a i = (gD a.g i).hi
abbrev AHJ (a : GL) : Prop := a.g.length = Fd a
abbrev AGN (a : GL) : Prop := ∀ (i : Nat), i < a.g.length -> (gD a.g i).st = W0 a i /\ (gD a.g i).lo = AEA a i /\ (gD a.g i).hi = ACQ a i
abbrev X8 (a : GL) : Prop := YR a < (1073741824 : Nat) /\ ∀ (i : Nat), ANE i a -> (0 : Int) <= iK a i /\ iK a i < (↑(Fd a) : Int)
abbrev AAJ (a : GL) : Prop := a.l.length = YR a
abbrev AHZ (a : GL) (i : Nat) : Int := gD (stM (CV (iV a)) (I6 a)) i
abbrev hY (a : GL) (i : Nat) : Int := gD (stM (CV a.g) a.l) i
theorem BUY (a : GL) : (BSM a) = ((∃ (a_1 : One), (Na /\ Ld a /\ kO a /\ iF /\ Int.ofNat (0 : Nat) = Int.ofNat (0 : Nat) /\ iF /\ Ld a /\ (∀ (i : Nat), i < a.l.length -> gD a.l i = gD a.l i) /\
 lL a) /\ True) /\ ∀ (a_1 : One), True -> bif decide ((20 : Int) <= (↑a.l.length : Int)) then (Na /\ kD a /\ gA /\ (20 : Int) = Int.ofNat (20 : Nat) /\ kD a /\ AHY a /\ AIZ a /\ AHA a /\
 AHJ a /\ AGN a /\ (gA /\ (20 : Int) = (↑(YR a) : Int)) /\ X8 a) /\ ∃ (a_3 : One), (Na /\ Ld a /\ kO a /\ iF /\ Int.ofNat (0 : Nat) = Int.ofNat (20 : Nat) /\ Int.ofNat (20 : Nat) =
 Int.ofNat (((20 : Nat) + (20 : Nat)) % ((2 : Int) ^ IntKind.i64.bits).natAbs) /\ AAJ a /\ (∀ (i : Nat), i < a.l.length -> gD a.l i = AHZ a i) /\ lL a) /\ True /\ (0 : Nat) < (0 : Nat) else (Na /\ kD a /\
 gA /\ kO a /\ kD a /\ AHY a /\ AIZ a /\ AHA a /\ AHJ a /\ AGN a /\ (gA /\ (↑a.l.length : Int) = (↑(YR a) : Int)) /\ X8 a) /\ (∃ (a_3 : One), (Na /\ Ld a /\ kO a /\
 iF /\ AAJ a /\ (∀ (i : Nat), i < a.l.length -> hY a i = AHZ a i) /\ lL a) /\ True) /\ ∀ (a_3 : One), True -> bif decide ((20 : Int) < (↑a.l.length : Int)) then False else Ld a /\ (∀ (i : Nat), i <
 a.l.length -> hY a i = hY a i) /\ lL a) := by kernel_rfl
def dGLt : List AVal -> Heap -> Option (GL × List (Nat × Nat) × List Nat)
 | [.own id _ _ n, .fn (.func f) [] [.bptr c _]], H => if f = KE then match H id, H c with
  | .live (.row _ m r), .live (.box [.d (.list _ k h _)]) => some (⟨AD k λ i => SD (h i), AD n λ i => CT (r i), 0, 0⟩, [(100, id), (101, c)], [])
  | _, _ => none else none
 | _, _ => none
def C_ss : Ctr := { ro := [101], α := GL, xs := λ a => [.own 100 1 0 a.l.length, fnW1], L := λ a => [(100, rowI a.l), (101, bxG a.g)], val := λ _ => .d (.tup []), keep := λ a => glK a (stM (CV a.g) a.l), pre := λ a => [a.l.length < 20 /\ glOk a] }
def A_ss : Ann := { ann 9 [(AZQ, C_stb.spec dGLs)] with E := [100, 101] }
def V_ss (a : GL) : Prop := AO Try.prog A_ss BLI (AF BLI) (C_ss.xs a) (AC (C_ss.L a)) (C_ss.val a) (C_ss.keep a) [] []
theorem BYT (a : GL) : (V_ss a) = ((0 = 0 /\ (AD a.l.length λ (i : Nat) => gD a.l i).length = a.l.length /\ (↑a.l.length : Int) = (↑a.l.length : Int) /\ (AD a.l.length λ (i : Nat) => gD a.l i).length = a.l.length /\
 (∀ (i : Nat), i < (AD a.l.length λ (i : Nat) => gD a.l i).length -> gD (AD a.l.length λ (i : Nat) => gD a.l i) i = gD a.l i) /\ (AD a.g.length λ (i : Nat) => gD a.g i).length = a.g.length /\ (∀ (i : Nat), i < (AD
 a.g.length λ (i : Nat) => gD a.g i).length -> (gD (AD a.g.length λ (i : Nat) => gD a.g i) i).st = (gD a.g i).st /\ (gD (AD a.g.length λ (i : Nat) => gD a.g i) i).lo = (gD a.g i).lo /\ (gD (AD a.g.length λ (i :
 Nat) => gD a.g i) i).hi = (gD a.g i).hi) /\ a.g.length = (AD a.g.length λ (i : Nat) => gD a.g i).length /\ (∀ (i : Nat), i < a.g.length -> (gD a.g i).st = (gD (AD a.g.length λ (i : Nat) => gD a.g i) i).st /\ (gD a.g
 i).lo = (gD (AD a.g.length λ (i : Nat) => gD a.g i) i).lo /\ (gD a.g i).hi = (gD (AD a.g.length λ (i : Nat) => gD a.g i) i).hi) /\ ((↑a.l.length : Int) = (↑(AD a.l.length λ (i : Nat) => gD a.l i).length : Int) /\
 (AD a.l.length λ (i : Nat) => gD a.l i).length < 20) /\ (AD a.l.length λ (i : Nat) => gD a.l i).length < 1073741824 /\ ∀ (i : Nat), i < (AD a.l.length λ (i : Nat) => gD a.l i).length -> 0 <= gD (AD a.l.length fun
 (i : Nat) => gD a.l i) i /\ gD (AD a.l.length λ (i : Nat) => gD a.l i) i < (↑(AD a.g.length λ (i : Nat) => gD a.g i).length : Int)) /\ a.l.length = (AD a.l.length λ (i : Nat) => gD a.l i).length /\ (∀ (i : Nat), i
 < a.l.length -> gD (stM (CV a.g) a.l) i = gD (stM (CV (AD a.g.length λ (i : Nat) => gD a.g i)) (AD a.l.length λ (i : Nat) => gD a.l i)) i) /\ a.g.length = a.g.length /\ ∀ (i : Nat), i < a.g.length -> (gD a.g i).st
 = (gD a.g i).st /\ (gD a.g i).lo = (gD a.g i).lo /\ (gD a.g i).hi = (gD a.g i).hi) := by kernel_rfl
theorem BVJ : AG Try.prog KE (C_fw1.spec dGAB) := GD C_fw1 (λ _ => BQN) [] [] AXS (λ _ => by kernel_rfl) (λ _ => AB AQB AE) (λ (a : GAB) h => by
 show BRY a; rw [BVM]; simp only [CC, eq_self, implies_true, forall_const]
 exact ⟨h, rfl⟩) (λ _ => GJ rfl rfl) _
theorem BAV {l : List Int} {j i : Nat} {x : Int} (hj : j < l.length) : gD (l.set j x) i = bif decide (i = j) then x else gD l i := by
 unfold gD
 rw [List.getD_eq_getElem?_getD, List.getD_eq_getElem?_getD, List.getElem?_set]
 by_cases h : i = j
 ·subst h; simp [hj]
 ·simp [h, Ne.symm h]
theorem BHR {l : List Int} {j i : Nat} (hj : j + 1 < l.length) : gD (swL l j) i = bif decide (i = j) then gD l (j + 1) else bif decide (i = j + 1) then gD l j else gD l i := by
 unfold swL
 rw [BAV (by simpa using hj), BAV (by omega)]
 by_cases h : i = j
 ·subst h; simp
 ·simp [h]
theorem ARE (l : List Int) (j : Nat) : (swL l j).length = l.length := by simp [swL]
theorem BWX (a : GL) (h : glOk a) : BSO a := by
 rw [BUZ]; delta fG NA kI iB Oy eV F6 APS M8 ALE TX jZ Fa He lO Ht AGB PU RE Ki WZ kN V3 S7 X3 AGX; simp only [CC, eq_self, implies_true, forall_const]
 obtain ⟨hlen, hin⟩ := h
 refine ⟨⟨⟨1, a.l⟩, ⟨by show (1 : Int) = _; rw [HM (by omega) (by omega)]; rfl, λ _ _ => rfl⟩, Nat.one_pos, .inr rfl, ⟨rfl, hin⟩, rfl⟩, λ x ⟨x1, x2, ⟨x3, x4⟩, x5⟩ => ⟨λ hlt => ⟨⟨⟨x.i, x.i, x.l⟩, ⟨rfl, rfl, λ _ _ => rfl⟩, rfl, x1, Int.ofNat_lt.1 hlt, Nat.le_refl _, ⟨x3, x4⟩, ?_⟩, λ y ⟨y1, y2, y3, y4, ⟨y5, y6⟩, y7⟩ => ?_⟩, λ hge => ?_⟩⟩
 ·rw [x5, show a.l.length - x.i = (a.l.length - (x.i + 1)) + 1 by omega]; rfl
 ·refine ⟨⟨λ _ => ⟨by omega, by omega⟩, λ _ => by omega, λ hj => ?_, λ hj => ?_, λ hj => ⟨y6 _ (by omega), ?_⟩⟩, λ hc => ?_, λ hc => ?_⟩
  ·rw [HM (by omega) (by omega)]; omega
  ·rw [HM (by omega) (by omega)]; omega
  ·rw [HM (by omega) (by omega)]; exact y6 _ (by omega)
  ·have hj : 0 < y.j := by
    cases hd : decide ((y.j : Int) > 0) with
    | false => rw [hd] at hc; cases hc
    | true => have := of_decide_eq_true hd; omega
   obtain ⟨j, hj2⟩ : ∃ j, y.j = j + 1 := ⟨y.j - 1, by omega⟩
   have e : IntKind.i64.wrap ((y.j : Int) - 1) = (j : Nat) := by rw [HM (by omega) (by omega)]; omega
   rw [decide_eq_true (show (y.j : Int) > 0 by omega)] at hc
   have hc : decide (JH (CV a.g (gD y.l y.j)) (CV a.g (gD y.l (IntKind.i64.wrap ((y.j : Int) - 1)).toNat)) < 0) = true := hc
   rw [e] at hc ⊢
   simp only [Int.toNat_natCast] at hc ⊢
   refine ⟨⟨⟨by omega, by omega⟩, by omega, ⟨by omega, by omega⟩, by omega, ⟨by omega, by omega⟩, by omega, ⟨by omega, by omega⟩, by omega⟩, ⟨y.i, j, swL y.l j⟩, ⟨rfl, rfl, λ i hi => ?_⟩, ⟨y1, y2, y3, by show j <= y.i; omega, ⟨by rw [ARE]; exact y5, λ i hi => ?_⟩, ?_⟩, by show j < _; omega⟩
   ·show gD (swL y.l j) i = _
    rw [BHR (by omega), hj2]
   ·show 0 <= gD (swL y.l j) i /\ gD (swL y.l j) i < _
    rw [BHR (by omega)]
    cases decide (i = j)
    ·cases decide (i = j + 1)
     ·exact y6 i hi
     ·exact y6 j (by omega)
    ·exact y6 (j + 1) (by omega)
   ·rw [hj2] at hc y7
    unfold insJ at y7
    rw [hc] at y7; exact y7
  ·have hq : insJ (CV a.g) y.j y.l = y.l := by
    cases hd : decide ((y.j : Int) > 0) with
    | false =>
     have := of_decide_eq_false hd
     rw [show y.j = 0 by omega]; rfl
    | true =>
     have hj := of_decide_eq_true hd
     obtain ⟨j, hj2⟩ : ∃ j, y.j = j + 1 := ⟨y.j - 1, by omega⟩
     have e : IntKind.i64.wrap ((y.j : Int) - 1) = (j : Nat) := by rw [HM (by omega) (by omega)]; omega
     rw [hd] at hc
     have hc : decide (JH (CV a.g (gD y.l y.j)) (CV a.g (gD y.l (IntKind.i64.wrap ((y.j : Int) - 1)).toNat)) < 0) = false := hc
     rw [e, hj2] at hc
     simp only [Int.toNat_natCast] at hc
     rw [hj2]; unfold insJ; rw [hc]; rfl
   rw [hq] at y7
   refine ⟨⟨y.i + 1, y.l⟩, ⟨(BH (by omega)).symm, λ _ _ => rfl⟩, ⟨by show 0 < y.i + 1; omega, .inl (by show y.i + 1 <= _; omega), ⟨y5, y6⟩, y7⟩, by show a.l.length - (y.i + 1) < _; omega⟩
 ·intro i hi
  rw [x5, show a.l.length - x.i = 0 by omega]; rfl
theorem BWD : AG Try.prog ARD (C_ins.spec dGL) := okT C_ins (λ (a : GL) h => by
 obtain ⟨⟨ha, hb⟩, h⟩ : (a.a = 0 /\ a.b = a.l.length) /\ glOk a := h
 show FnT Try.prog ARD [.own 100 1 0 a.l.length, .int a.a, .int a.b, fnW1] _ _ _
 rw [ha, hb]
 exact JZ (A := BRF a) (L := C_ins.L a) (keep := C_ins.keep a) (ren := []) (fz := []) BMW (by kernel_rfl) (AB BVJ AE) (BWX a h)) _
theorem BUX : AG Try.prog AZQ (C_stb.spec dGLs) := okT C_stb (λ (a : GL) h => by
 obtain ⟨⟨ha, hb⟩, h⟩ : (a.a = a.l.length /\ a.l.length < 20) /\ glOk a := h
 show FnT Try.prog AZQ [.own 100 1 0 a.l.length, .int a.a, fnW1] _ _ _
 rw [ha]
 refine JZ (A := BRV a) (L := C_stb.L a) (keep := C_stb.keep a) (ren := []) (fz := []) BVI (by kernel_rfl) (AB BWD AE) ?_
 show BSM a
 rw [BUY]; delta Na Ld kO iF lL I6 YR kD gA ANE iK AHY iV Fd AIZ eP W0 AEA ACQ AHA AHJ AGN X8 AAJ AHZ hY; simp only [CC, eq_self, implies_true, forall_const]
 exact ⟨⟨default, trivial⟩, λ hc => by omega, λ _ => ⟨⟨rfl, rfl, h⟩, ⟨default, trivial⟩, λ hc => by omega⟩⟩) _
theorem BWK : AG Try.prog BJN (C_ss.spec dGLt) := GD C_ss (λ _ => A_ss) [] [] BVL (λ _ => by kernel_rfl) (λ _ => AB BUX AE) (λ (a : GL) h => by
 show V_ss a; rw [BYT]; simp only [CC, eq_self, implies_true, forall_const]
 exact h) (λ _ => GJ rfl rfl) _
end Go.Bal
