/- The reference: Reach2, Group. -/
import Derived.Test.YtonddbmhljelgaaBalLv5
set_option linter.unusedVariables false
set_option linter.unusedSimpArgs false
namespace Go.Bal
open Go Go.Sym Go.Proofs
def YO (a : NRF) : Int := if AC a.N = 0 then if inM a.r 0 (a.N.r.length - 1) then if KP a.N = 0 then if inM a.f (gD (QN a.N) a.r.toNat).lo (gD (QN a.N) a.r.toNat).hi then 0 else 5 else KP a.N else 2 else AC a.N
def C39 : Ctr := { α := NRF, xs := Zp, val := λ a => .int (YO a), pre := λ a => [a.N.g.length <= 1000000 /\ a.N.r.length <= 1000000] }
def V39 (a : NRF) : Prop := BC Try.prog (ann 43 [(45, C45.spec QO), (60, s60), (36, C36.spec dN)]) Try.f39 (AH Try.f39) (C39.xs a) (AE []) (C39.val a) (C39.keep a) [] []
theorem vc39 (a : NRF) : (V39 a) = (((AD a.N.g.length λ (i : Nat) => gD a.N.g i).length = a.N.g.length /\ (∀ (i : Nat), i < (AD a.N.g.length λ (i : Nat) => gD a.N.g i).length -> (gD (AD a.N.g.length λ (i : Nat) =>
 gD a.N.g i) i).lo = (gD a.N.g i).lo /\ (gD (AD a.N.g.length λ (i : Nat) => gD a.N.g i) i).hi = (gD a.N.g i).hi) /\ (AD a.N.r.length λ (i : Nat) => gD a.N.r i).length = a.N.r.length /\ (∀ (i : Nat), i < (AD
 a.N.r.length λ (i : Nat) => gD a.N.r i).length -> (gD (AD a.N.r.length λ (i : Nat) => gD a.N.r i) i).fr = (gD a.N.r i).fr /\ (gD (AD a.N.r.length λ (i : Nat) => gD a.N.r i) i).to = (gD a.N.r i).to /\ (gD (AD
 a.N.r.length λ (i : Nat) => gD a.N.r i) i).sp.lo = (gD a.N.r i).sp.lo /\ (gD (AD a.N.r.length λ (i : Nat) => gD a.N.r i) i).sp.hi = (gD a.N.r i).sp.hi) /\ (AD a.N.g.length λ (i : Nat) => gD a.N.g i).length <=
 1000000 /\ (AD a.N.r.length λ (i : Nat) => gD a.N.r i).length <= 1000000) /\ bif AC (NetL.mk (AD a.N.g.length λ (i : Nat) => gD a.N.g i) (AD a.N.r.length λ (i : Nat) => gD a.N.r i)) != 0 then YO a = AC
 (NetL.mk (AD a.N.g.length λ (i : Nat) => gD a.N.g i) (AD a.N.r.length λ (i : Nat) => gD a.N.r i)) else bif !inM a.r 0 (IntKind.i64.wrap ((↑a.N.r.length : Int) - 1)) then YO a = 2 else ((AD a.N.g.length λ (i :
 Nat) => gD a.N.g i).length = a.N.g.length /\ (∀ (i : Nat), i < (AD a.N.g.length λ (i : Nat) => gD a.N.g i).length -> (gD (AD a.N.g.length λ (i : Nat) => gD a.N.g i) i).lo = (gD a.N.g i).lo /\ (gD (AD a.N.g.length fun
 (i : Nat) => gD a.N.g i) i).hi = (gD a.N.g i).hi) /\ (AD a.N.r.length λ (i : Nat) => gD a.N.r i).length = a.N.r.length /\ (∀ (i : Nat), i < (AD a.N.r.length λ (i : Nat) => gD a.N.r i).length -> (gD (AD a.N.r.length
 λ (i : Nat) => gD a.N.r i) i).fr = (gD a.N.r i).fr /\ (gD (AD a.N.r.length λ (i : Nat) => gD a.N.r i) i).to = (gD a.N.r i).to /\ (gD (AD a.N.r.length λ (i : Nat) => gD a.N.r i) i).sp.lo = (gD a.N.r i).sp.lo /\ (gD
 (AD a.N.r.length λ (i : Nat) => gD a.N.r i) i).sp.hi = (gD a.N.r i).sp.hi) /\ (AD a.N.g.length λ (i : Nat) => gD a.N.g i).length <= 1000000 /\ (AD a.N.r.length λ (i : Nat) => gD a.N.r i).length <= 1000000) /\ bif
 KP (NetL.mk (AD a.N.g.length λ (i : Nat) => gD a.N.g i) (AD a.N.r.length λ (i : Nat) => gD a.N.r i)) != 0 then YO a = KP (NetL.mk (AD a.N.g.length λ (i : Nat) => gD a.N.g i) (AD a.N.r.length λ (i : Nat)
 => gD a.N.r i)) else ((0 <= a.r /\ a.r < (↑(QN (NetL.mk (AD a.N.g.length λ (i : Nat) => gD a.N.g i) (AD a.N.r.length λ (i : Nat) => gD a.N.r i))).length : Int)) /\ 0 <= a.r /\ a.r < (↑(QN (NetL.mk (AD a.N.g.length
 λ (i : Nat) => gD a.N.g i) (AD a.N.r.length λ (i : Nat) => gD a.N.r i))).length : Int)) /\ bif !inM a.f (gD (QN (NetL.mk (AD a.N.g.length λ (i : Nat) => gD a.N.g i) (AD a.N.r.length λ (i : Nat) => gD a.N.r
 i))) a.r.toNat).lo (gD (QN (NetL.mk (AD a.N.g.length λ (i : Nat) => gD a.N.g i) (AD a.N.r.length λ (i : Nat) => gD a.N.r i))) a.r.toNat).hi then YO a = 5 else YO a = 0) := by kernel_rfl
def JU (n : Nat) (st : List Int) (k : Nat) : List Bool := (List.range n).map λ (j : Nat) => decide ((j : Int) ∈ st.take k)
def EO (g : Nat) : Int := 2 * (g : Int) - 1
def Yu (a : NGr) (q : Int) : LvA := ⟨a.N, JU a.N.g.length a.st a.st.length, q⟩
def LN (a : NGr) (q : Int) : List (List Int) := AR (Yu a q) a.N.g.length
def Gq (a : NGr) (q : Int) (k : Nat) : Int := KN ⟨a.N, gD (LN a q) k, JU a.N.g.length a.st a.st.length, q, -1⟩ a.N.g.length
def Ms (a : NGr) : Nat -> Span
  | 0 => ⟨-100000000, 100000000⟩
  | g + 1 => HO (Ms a g) (λ _ => EO g) (Gq a (EO g)) (LN a (EO g)).length
structure GrI where
  g : Nat
  k : Nat
  deriving Inhabited
def gsK (a : NGr) (x : GrI) : Span := HO (Ms a x.g) (λ _ => EO x.g) (Gq a (EO x.g)) x.k
def ACR (n : Nat) (b : List Bool) : HCell := .live (.row 1 n λ i => XK (gD b i))
def grH (a : NGr) : List (Nat × HCell) := [(203, EZ a.N), (207, spO ⟨0, 0⟩)]
def gr18 (a : NGr) (g : Nat) : List (Nat × AVal) := [(2, .bptr 203 0), (4, .bptr 207 0), (7, .d (HK (JU a.N.g.length a.st a.st.length))), (10, .bptr 206 0), (11, .int (EO g))]
def grI0 (a : NGr) : Prop := AC a.N = 0 /\ Grp a.N.g.length a.st /\ a.st.length ≠ 0 /\ BU a.N = 0
def A41 (a : NGr) : Ann := { ann 99 [(45, C45.spec QO), (60, s60), (76, C76.spec dN), (53, C53.spec d53), (54, C54.spec d54), (71, s71)] with cutIn := λ gs id => if id = 11 then some [{ α := One, dflt := default, T := λ _ => ⟨[(1, .d (AW a.st)), (2, .bptr 203 0), (4, .bptr 207 0), (7, .d (HK (JU a.N.g.length a.st a.st.length)))], grH a⟩, inv := λ _ => AC a.N = 0 /\ Grp a.N.g.length a.st, meas := λ _ => 0, ffz := [204] }] else none, loops := λ id => if id = 6 then some [{ α := Nat, dflt := 0, T := λ i => ⟨[(1, .d (AW a.st)), (2, .bptr 203 0), (4, .bptr 207 0), (7, .own 204 1 0 a.N.g.length), (8, .int i)], grH a ++ [(204, ACR a.N.g.length (JU a.N.g.length a.st i))]⟩, inv := λ i => AC a.N = 0 /\ i <= a.st.length /\ Grp a.N.g.length (a.st.take i), meas := λ i => a.st.length - i, first := [(203, 1000), (204, 5048), (207, 1016)] }] else if id = 18 then some [{ α := Nat, dflt := 0, T := λ g => ⟨gr18 a g, grH a ++ [(206, spO (Ms a g))]⟩, inv := λ g => grI0 a /\ g <= 2, meas := λ g => 2 - g, first := [(206, 17016)] }] else none, inner := λ gs id => if id = 22 then some [{ α := GrI, dflt := default, T := λ x => ⟨gr18 a x.g ++ [(12, .d (eLL (LN a (EO x.g)))), (13, .int x.k)], grH a ++ [(206, spO (gsK a x))]⟩, inv := λ x => grI0 a /\ x.g < 2 /\ 2 - x.g = gs.getD 0 0 /\ x.k <= (LN a (EO x.g)).length, meas := λ x => (LN a (EO x.g)).length - x.k }] else none }
def Lh (a : NGr) : Int := if AC a.N = 0 then if grpBad a.N.g.length (-1) a.st = true ∨ a.st.length = 0 then 2 else KP a.N else AC a.N
def Tq (a : NGr) : Span := if Lh a = 0 then Ms a 2 else ⟨0, 0⟩
def C41 : Ctr := { α := NGr, xs := Zq, val := λ a => .tup [.d (EU (Tq a)), .int (Lh a)], pre := λ a => [a.N.g.length <= 1000000 /\ a.N.r.length <= 1000000, a.st.length <= 1000000] }
def V41 (a : NGr) : Prop := BC Try.prog (A41 a) Try.f41 (AH Try.f41) (C41.xs a) (AE []) (C41.val a) (C41.keep a) [] []
theorem vc41 (a : NGr) : (V41 a) = (let q := a
 let y0 : List Span := AD q.N.g.length λ (i : Nat) => gD q.N.g i
 let y1 := y0.length
 let y2 := y1 = q.N.g.length
 let y3 (i : Nat) : Span := gD y0 i
 let y4 := ∀ (i : Nat), i < y1 -> (y3 i).lo = (gD q.N.g i).lo /\ (y3 i).hi = (gD q.N.g i).hi
 let y5 : List Reach := AD q.N.r.length λ (i : Nat) => gD q.N.r i
 let y6 := y5.length
 let y7 := y6 = q.N.r.length
 let y8 (i : Nat) : Reach := gD y5 i
 let y9 (i : Nat) : Span := (y8 i).sp
 let y10 := ∀ (i : Nat), i < y6 -> (y8 i).fr = (gD q.N.r i).fr /\ (y8 i).to = (gD q.N.r i).to /\ (y9 i).lo = (gD q.N.r i).sp.lo /\ (y9 i).hi = (gD q.N.r i).sp.hi
 let y11 := y2 /\ y4 /\ y7 /\ y10 /\ y1 <= (1000000 : Nat) /\ y6 <= (1000000 : Nat)
 let y12 : NetL := NetL.mk y0 y5
 let y13 := AC y12
 let y14 := (Tq q).lo = (0 : Int)
 let y15 := (Tq q).hi = (0 : Int)
 let y16 := q.st.length = q.st.length
 let y17 := ∀ (i : Nat), i < q.st.length -> gD q.st i = gD q.st i
 let y18 := (0 : Nat) = (0 : Nat)
 let y19 := q.N.g.length = q.N.g.length
 let y20 := ∀ (i : Nat), i < q.N.g.length -> (gD q.N.g i).lo = (gD q.N.g i).lo /\ (gD q.N.g i).hi = (gD q.N.g i).hi
 let y21 := q.N.r.length = q.N.r.length
 let y22 := ∀ (i : Nat), i < q.N.r.length -> (gD q.N.r i).fr = (gD q.N.r i).fr /\ (gD q.N.r i).to = (gD q.N.r i).to /\ (gD q.N.r i).sp.lo = (gD q.N.r i).sp.lo /\ (gD q.N.r i).sp.hi = (gD q.N.r i).sp.hi
 let y23 := Int.ofNat (0 : Nat) = Int.ofNat (0 : Nat)
 let y24 (a1 : Nat) (i : Nat) := gD (JU q.N.g.length q.st a1) i
 let y25 := AC q.N = (0 : Int)
 let y26 (a1 : Nat) := y25 /\ a1 <= q.st.length /\ Grp q.N.g.length (List.take a1 q.st)
 let y27 (a : Nat) := (↑a : Int) < (↑q.st.length : Int)
 let y28 (a : Nat) := (0 : Int) <= (↑a : Int) /\ y27 a
 let y29 (a1 : Nat) := !inM (gD q.st a1) (0 : Int) (IntKind.i64.wrap ((↑q.N.g.length : Int) - (1 : Int)))
 let y30 (a : Nat) := decide ((↑a : Int) > (0 : Int))
 let y31 (a1 : Nat) := (!y29 a1 && y30 a1) = true
 let y32 (a : Nat) := IntKind.i64.wrap ((↑a : Int) - (1 : Int))
 let y33 := y14 /\ y15 /\ Lh q = (2 : Int)
 let y34 (a1 : Nat) := (0 : Nat) + (gD q.st a1).toNat
 let y35 (a1 : Nat) := q.st.length - a1
 let y36 : List Bool := JU q.N.g.length q.st q.st.length
 let y37 := y36.length
 let y38 (j : Nat) := j < y37
 let y39 (j : Nat) := gD y36 j
 let y40 := y25 /\ Grp q.N.g.length q.st
 let y41 := KP y12
 let y42 := y37 = y37
 let y43 := ∀ (i : Nat), y38 i -> y39 i = y39 i
 let y44 := y25 /\ Grp q.N.g.length q.st /\ q.st.length ≠ (0 : Nat) /\ BU q.N = (0 : Int)
 let y45 (a1 : Nat) := y44 /\ a1 <= (2 : Nat)
 let y46 (a : Nat) := EO a <= (1 : Int)
 let y47 : List Bool := AD y37 λ (i : Nat) => y39 i
 let y48 := y47.length
 let y49 := y48 = y37
 let y50 := ∀ (i : Nat), i < y48 -> gD y47 i = y39 i
 let y51 := y13 = (0 : Int)
 let y52 := y48 = y1
 let y53 (a1 : Nat) : List (List Int) := AR (LvA.mk y12 y47 (EO a1)) y1
 let y54 (i : Nat) (a1 : GrI) := i < (LN q (EO a1.g)).length
 let y55 (a1 : GrI) (i : Nat) : List Int := gD (LN q (EO a1.g)) i
 let y56 (a1 : GrI) (i : Nat) := (y55 a1 i).length
 let y57 (a1 : Nat) (i : Nat) : List Int := gD (y53 a1) i
 let y58 (i : Nat) (a1 : GrI) (i1 : Nat) := i < y56 a1 i1
 let y59 (a1 : GrI) (i : Nat) (i1 : Nat) := gD (y55 a1 i) i1
 let y60 (a : Nat) := (2 : Nat) - a
 let y61 (a1 : GrI) (a2 : Nat) := y44 /\ a1.g < (2 : Nat) /\ (2 : Nat) - a1.g = (y60 a2 :: ([] ++ ([] ++ []))).getD (0 : Nat) (0 : Nat) /\ a1.k <= (LN q (EO a1.g)).length
 let y62 (a : GrI) := (↑a.k : Int) < (↑(LN q (EO a.g)).length : Int)
 let y63 (a1 : GrI) : List Int := gD (LN q (EO a1.g)) a1.k
 let y64 (a1 : GrI) := (y63 a1).length
 let y65 (a1 : GrI) (i : Nat) := gD (y63 a1) i
 let y66 (a1 : GrI) : List Int := AD (y64 a1) λ (i : Nat) => y65 a1 i
 let y67 (a1 : GrI) := (y66 a1).length
 let y68 (a1 : GrI) : Span := PQ (gsK q a1) (EO a1.g) (KN (PvA.mk y12 (y66 a1) y47 (EO a1.g) (-1 : Int)) y1)
 let y69 (a1 : GrI) := (LN q (EO a1.g)).length - a1.k
 (y11 /\ bif y13 != (0 : Int) then y14 /\ y15 /\ Lh a = y13 else ((0 : Int) <= (↑a.N.g.length : Int) /\ (↑a.N.g.length : Int) = (↑a.N.g.length : Int) /\
 (↑a.N.g.length : Int) <= (9223372036854775807 : Int) /\ (↑(1 : Nat) : Int) * (↑a.N.g.length : Int) <= (281474976710656 : Int)) /\ ((∃ (a_1 : Nat), (y16 /\ y17 /\ y18 /\ y19 /\ (↑a_1 : Int) = (0 : Int) /\ y19 /\ y20 /\ y21 /\ y22 /\ y23 /\ y23 /\ y19 /\ ∀ (i : Nat), i < a.N.g.length -> y24 a_1 i = false) /\ y26 a_1) /\ ∀ (a_1 : Nat), y26 a_1 -> bif decide (y27 a_1) then (y28 a_1 /\
 (y31 a_1 -> y28 a_1) /\ (y31 a_1 -> (0 : Int) <= y32 a_1 /\ y32 a_1 < (↑a.st.length : Int))) /\ bif bif y29 a_1 then true else bif y30 a_1 then decide (gD a.st a_1 <= gD a.st (y32 a_1).toNat)
 else false then y33 else (y28 a_1 /\ ((0 : Int) <= gD a.st a_1 /\ gD a.st a_1 < (↑a.N.g.length : Int)) /\ (y34 a_1).succ.le a.N.g.length) /\ ∃ (a_3 : Nat), (y16 /\ y17 /\ y18 /\ y19 /\ (↑a_3 :
 Int) = IntKind.i64.wrap ((↑a_1 : Int) + (1 : Int)) /\ y19 /\ y20 /\ y21 /\ y22 /\ y23 /\ y23 /\ y19 /\ ∀ (i : Nat), i < a.N.g.length -> y24 a_3 i = bif decide (i = y34 a_1) then true else
 y24 a_1 i) /\ y26 a_3 /\ y35 a_3 < y35 a_1 else ∃ (a_3 : One), (y16 /\ y17 /\ y37 = a.N.g.length /\ (0 : Nat) + a.N.g.length <= a.N.g.length /\ (∀ (j : Nat), y38 j -> y39 j = gD (JU
 a.N.g.length a.st a_1) ((0 : Nat) + j)) /\ y19 /\ y20 /\ y21 /\ y22 /\ y23 /\ y23) /\ y40) /\ ∀ (a_1 : One), y40 -> bif (↑a.st.length : Int) == (0 : Int) then y33 else y11 /\ bif
 y41 != (0 : Int) then y14 /\ y15 /\ Lh a = y41 else (∃ (a_3 : Nat), (y42 /\ y43 /\ EO a_3 = (-1 : Int) /\ y19 /\ y20 /\ y21 /\ y22 /\ y23 /\ y23 /\ (Ms a a_3).lo =
 (-100000000 : Int) /\ (Ms a a_3).hi = (100000000 : Int)) /\ y45 a_3) /\ ∀ (a_3 : Nat), y45 a_3 -> bif decide (y46 a_3) then (y2 /\ y4 /\ y7 /\ y10 /\ y49 /\ y50 /\ EO a_3 = EO a_3 /\
 y51 /\ y52 /\ (-1 : Int) <= EO a_3 /\ y46 a_3) /\ (∃ (a_5 : GrI), (y42 /\ y43 /\ EO a_5.g = EO a_3 /\ (LN a (EO a_5.g)).length = (y53 a_3).length /\ (∀ (i : Nat), y54 i a_5 -> y56 a_5 i = (y57 a_3 i).length /\ ∀ (i_1 : Nat), y58 i_1 a_5 i -> y59 a_5 i i_1 = gD (y57 a_3 i) i_1) /\ (↑a_5.k : Int) = (0 : Int) /\ y19 /\ y20 /\ y21 /\ y22 /\ y23 /\ y23 /\ (gsK a a_5).lo
 = (Ms a a_3).lo /\ (gsK a a_5).hi = (Ms a a_3).hi) /\ y61 a_5 a_3) /\ ∀ (a_5 : GrI), y61 a_5 a_3 -> bif decide (y62 a_5) then (((0 : Int) <= (↑a_5.k : Int) /\ y62 a_5) /\ y2 /\ y4 /\ y7 /\
 y10 /\ y67 a_5 = y64 a_5 /\ (∀ (i : Nat), i < y67 a_5 -> gD (y66 a_5) i = y65 a_5 i) /\ y49 /\ y50 /\ EO a_5.g = EO a_5.g /\ (-1 : Int) = Int.negSucc (0 : Nat) /\ y51 /\ y67 a_5 = y1 /\ y52) /\ ∃ (a_7 : GrI), (y42 /\ y43 /\ EO a_7.g = EO a_5.g /\ (LN a (EO a_7.g)).length = (LN a (EO a_5.g)).length /\ (∀ (i : Nat), y54 i a_7 -> y56 a_7 i = y56 a_5 i /\ ∀
 (i_1 : Nat), y58 i_1 a_7 i -> y59 a_7 i i_1 = y59 a_5 i i_1) /\ (↑a_7.k : Int) = IntKind.i64.wrap ((↑a_5.k : Int) + (1 : Int)) /\ y19 /\ y20 /\ y21 /\ y22 /\ y23 /\ y23 /\ (gsK a a_7).lo =
 (y68 a_5).lo /\ (gsK a a_7).hi = (y68 a_5).hi) /\ y61 a_7 a_3 /\ y69 a_7 < y69 a_5 else ∃ (a_7 : Nat), (y42 /\ y43 /\ EO a_7 = IntKind.i64.wrap (EO a_5.g + (2 : Int)) /\ y19 /\ y20 /\ y21 /\ y22 /\ y23 /\ y23 /\ (Ms a a_7).lo = (gsK a a_5).lo /\ (Ms a a_7).hi = (gsK a a_5).hi) /\ y45 a_7 /\ y60 a_7 < y60 a_3 else (Tq a).lo = (Ms a a_3).lo /\ (Tq a).hi = (Ms a a_3).hi /\ Lh
 a = (0 : Int))) := by kernel_rfl
theorem p39 (a : NRF) (h1 : a.N.g.length <= 1000000 /\ a.N.r.length <= 1000000) : V39 a := by
  have et : NetL.mk a.N.g a.N.r = a.N := rfl
  have ew : IntKind.i64.wrap ((a.N.r.length : Int) - 1) = (a.N.r.length : Int) - 1 := LO (by omega) (by omega)
  rw [vc39]; simp only [CC, eq_self, implies_true, forall_const, et, ew]
  refine ⟨h1, λ hc => ?_, λ hc => ⟨λ hr => ?_, λ hr => ⟨h1, λ hf => ?_, λ hf => ⟨?_, λ hi => ?_, λ hi => ?_⟩⟩⟩⟩
  · have hc : AC a.N ≠ 0 := by simpa using hc
    exact if_neg hc
  all_goals have hc : AC a.N = 0 := by simpa using hc
  · unfold YO; rw [if_pos hc, hr]; rfl
  · have hf : KP a.N ≠ 0 := by simpa using hf
    unfold YO; rw [if_pos hc, if_pos hr, if_neg hf]
  all_goals have hf : KP a.N = 0 := by simpa using hf
  · have := BI.1 hr
    rw [show QN a.N = TL a.N a.N.r.length from if_pos hf, Ap]; omega
  · unfold YO; rw [if_pos hc, if_pos hr, if_pos hf, hi]; rfl
  · unfold YO; rw [if_pos hc, if_pos hr, if_pos hf, hi]; rfl
theorem ok39 : AI Try.prog 39 (C39.spec d38) := HQ C39 (λ _ => ann 43 [(45, C45.spec QO), (60, s60), (36, C36.spec dN)]) [] [] Try.func39 (λ _ => by kernel_rfl) (λ _ => AA Uf (AA So (AA ok36 AF))) (λ a h => p39 a h) (λ _ => IL rfl rfl) _
theorem OX {l : List Int} {i : Nat} (h : i < l.length) : l.take (i + 1) = l.take i ++ [gD l i] := by
  rw [List.take_add_one, List.getElem?_eq_getElem h]; simp [gD, List.getElem?_eq_getElem h]
theorem Xk {n : Nat} {st : List Int} (h : Grp n st) (k : Nat) : Grp n (st.take k) := ⟨λ x hx => h.mem x (List.mem_of_mem_take hx), h.inc.sublist (List.take_sublist k st)⟩
theorem Wk {n : Nat} {l : List Int} {x : Int} (h : Grp n l) (hx : 0 <= x /\ x < n) (hl : ∀ y ∈ l, y < x) : Grp n (l ++ [x]) := by
  refine ⟨λ y hy => ?_, ?_⟩
  · rcases List.mem_append.1 hy with hy | hy
    · exact h.mem y hy
    · have : y = x := by simpa using hy
      subst this; exact hx
  · rw [List.pairwise_append]
    refine ⟨h.inc, by simp, λ y hy z hz => ?_⟩
    have : z = x := by simpa using hz
    subst this; exact hl y hy
theorem Uw {n : Nat} {st : List Int} {i : Nat} (h : Grp n (st.take (i + 1))) (hi : i < st.length) : ∀ y ∈ st.take (i + 1), y <= gD st i := by
  rw [OX hi] at h ⊢
  intro y hy
  rcases List.mem_append.1 hy with hy | hy
  · have := (List.pairwise_append.1 h.inc).2.2 y hy (gD st i) (by simp); omega
  · have : y = gD st i := by simpa using hy
    omega
theorem Sy {n : Nat} {st : List Int} {i j : Nat} (hi : i < st.length) (hj : j < n) (h0 : 0 <= gD st i) : gD (JU n st (i + 1)) j = bif decide (j = (gD st i).toNat) then true else gD (JU n st i) j := by
  unfold JU
  rw [BZ (λ (j : Nat) => decide ((j : Int) ∈ st.take (i + 1))) hj, BZ (λ (j : Nat) => decide ((j : Int) ∈ st.take i)) hj, OX hi]
  by_cases he : j = (gD st i).toNat
  · rw [decide_eq_true he]
    simp only [cond_true]
    exact decide_eq_true (List.mem_append.2 (.inr (by simp; omega)))
  · rw [decide_eq_false he]
    simp only [cond_false]
    rw [decide_eq_decide, List.mem_append]
    constructor
    · rintro (h | h)
      · exact h
      · have : (j : Int) = gD st i := by simpa using h
        omega
    · exact .inl
theorem Vc (n : Nat) (st : List Int) (k : Nat) : (JU n st k).length = n := by simp [JU]
theorem Zx {a : NGr} (hg : Good a.N) (q : Int) : (LN a q).length <= 6561 := QX (Yu a q) hg.g8
theorem p41 (a : NGr) (h1 : a.N.g.length <= 1000000 /\ a.N.r.length <= 1000000) (h2 : a.st.length <= 1000000) : V41 a := by
  have et : NetL.mk a.N.g a.N.r = a.N := rfl
  have ew : IntKind.i64.wrap ((a.N.g.length : Int) - 1) = (a.N.g.length : Int) - 1 := LO (by omega) (by omega)
  have bl := Vc a.N.g.length a.st
  have z0 : ∀ e, Lh a = e -> e ≠ 0 -> (Tq a).lo = 0 /\ (Tq a).hi = 0 /\ Lh a = e := λ e he hne => by
    have : Tq a = ⟨0, 0⟩ := if_neg (by rw [he]; exact hne)
    rw [this]; exact ⟨rfl, rfl, he⟩
  rw [vc41]; (conv => zeta); simp only [CC, eq_self, implies_true, forall_const, et, ew, grI0, List.nil_append, List.append_nil, List.getD_cons_zero]
  refine ⟨h1, λ hc => ?err, λ hc => ?ok⟩
  case err =>
    have hc : AC a.N ≠ 0 := by simpa using hc
    exact z0 _ (if_neg hc) hc
  case ok =>
    have hc : AC a.N = 0 := by simpa using hc
    have hg := AS hc
    have hg8 := hg.g8
    have hg1 := hg.g1
    have gof : grpBad a.N.g.length (-1) a.st = false ↔ Grp a.N.g.length a.st := Ea ⟨hg1, hg8⟩
    refine ⟨⟨by omega, by omega, by omega⟩, ⟨⟨0, ⟨rfl, λ i hi => ?n0⟩, hc, Nat.zero_le _, ⟨λ x hx => by simp at hx, by simp⟩⟩, λ i ⟨_, hi, hgi⟩ => ⟨λ hlt => ⟨⟨⟨by omega, by omega⟩, λ hb => ⟨by omega, by omega⟩, λ hb => ?b0⟩, λ hb => ?bad, λ hb => ?fine⟩, λ hge => ?ex⟩⟩, λ ⟨_, hgr⟩ => ⟨λ hl => ?e0, λ hl => ⟨h1, λ hf => ?e1, λ hf => ?go⟩⟩⟩
    case n0 =>
      unfold JU
      rw [BZ (λ (j : Nat) => decide ((j : Int) ∈ a.st.take 0)) hi]; simp
    case b0 =>
      have hp : (i : Int) > 0 := by
        rw [Bool.and_eq_true, decide_eq_true_eq] at hb; exact hb.2
      have e : IntKind.i64.wrap ((i : Int) - 1) = (i : Int) - 1 := LO (by omega) (by omega)
      rw [e]; omega
    case bad =>
      have hbt : grpBad a.N.g.length (-1) a.st = true := (Bool.not_eq_false _).mp λ hbad => by
        have hG := gof.1 hbad
        have hm := hG.mem (gD a.st i) (JG (by omega))
        have hin : inM (gD a.st i) 0 ((a.N.g.length : Int) - 1) = true := BI.2 (by omega)
        rw [hin] at hb
        simp only [Bool.not_true, cond_false] at hb
        by_cases hp : (i : Int) > 0
        · rw [decide_eq_true hp] at hb
          have e : IntKind.i64.wrap ((i : Int) - 1) = (i : Int) - 1 := LO (by omega) (by omega)
          rw [e] at hb
          simp only [cond_true, decide_eq_true_eq] at hb
          have hx := Xk hG (i + 1)
          rw [OX (by omega)] at hx
          have := (List.pairwise_append.1 hx.inc).2.2 (gD a.st ((i : Int) - 1).toNat) (by
            have e2 : ((i : Int) - 1).toNat = i - 1 := by omega
            rw [e2, show a.st.take i = a.st.take (i - 1 + 1) by rw [show i - 1 + 1 = i by omega], OX (by omega)]
            simp) (gD a.st i) (by simp)
          omega
        · rw [decide_eq_false hp] at hb; cases hb
      exact z0 2 (by unfold Lh; rw [if_pos hc, if_pos (.inl hbt)]) (by decide)
    case fine =>
      have hin : inM (gD a.st i) 0 ((a.N.g.length : Int) - 1) = true := by
        cases h : inM (gD a.st i) 0 ((a.N.g.length : Int) - 1) with
        | true => rfl
        | false => rw [h] at hb; simp at hb
      rw [hin] at hb
      simp only [Bool.not_true, cond_false] at hb
      have hm := BI.1 hin
      refine ⟨⟨⟨by omega, by omega⟩, by omega, by omega⟩, i + 1, ⟨(AN (by omega)).symm, λ j hj => Sy (by omega) hj (by omega)⟩, ⟨hc, by omega, ?_⟩, by omega⟩
      rw [OX (by omega)]
      refine Wk hgi (by omega) λ y hy => ?_
      by_cases hp : (i : Int) > 0
      · rw [decide_eq_true hp] at hb
        have e : IntKind.i64.wrap ((i : Int) - 1) = (i : Int) - 1 := LO (by omega) (by omega)
        rw [e] at hb
        simp only [cond_true, decide_eq_false_iff_not] at hb
        have e2 : ((i : Int) - 1).toNat = i - 1 := by omega
        rw [e2] at hb
        have hi1 : i = i - 1 + 1 := by omega
        rw [hi1] at hgi hy
        have := Uw hgi (by omega) y hy
        omega
      · have : i = 0 := by omega
        subst this; simp at hy
    case ex =>
      have hx : i = a.st.length := by omega
      subst hx
      rw [List.take_length] at hgi
      exact ⟨⟨0⟩, ⟨bl _, Nat.le_refl _, λ _ _ => rfl⟩, hc, hgi⟩
    case e0 =>
      have hl : a.st.length = 0 := by simpa using hl
      exact z0 2 (by unfold Lh; rw [if_pos hc, if_pos (.inr hl)]) (by decide)
    case e1 =>
      have hl : a.st.length ≠ 0 := by simpa using hl
      have hf : KP a.N ≠ 0 := by simpa using hf
      exact z0 _ (by unfold Lh; rw [if_pos hc, if_neg]; rintro (h | h)
                     · rw [gof.2 hgr] at h; cases h
                     · exact hl h) hf
    case go =>
      have hl : a.st.length ≠ 0 := by simpa using hl
      have hf : KP a.N = 0 := by simpa using hf
      obtain ⟨_, hz⟩ := Hd hf
      have hR : Lh a = 0 := by
        unfold Lh; rw [if_pos hc, if_neg, hf]
        rintro (h | h)
        · rw [gof.2 hgr] at h; cases h
        · exact hl h
      have hV : Tq a = Ms a 2 := if_pos hR
      have lb := Zx (a := a) hg
      refine ⟨⟨0, ⟨by decide, rfl, rfl⟩, ⟨hc, hgr, hl, hz⟩, by decide⟩, λ g ⟨_, hg2⟩ => ⟨λ hle => ?_, λ hgt => ?_⟩⟩
      · have hq : g < 2 := by unfold EO at hle; omega
        have hq1 : -1 <= EO g := by unfold EO; omega
        refine ⟨⟨hc, bl _, hq1, hle⟩, ⟨⟨g, 0⟩, ⟨rfl, rfl, λ _ _ => ⟨rfl, λ _ _ => rfl⟩, rfl, rfl, rfl⟩, ⟨hc, hgr, hl, hz⟩, hq, rfl, Nat.zero_le _⟩, λ x ⟨_, x1, x2, x3⟩ => ⟨λ hk => ?_, λ hk => ?_⟩⟩
        · have := lb (EO x.g)
          exact ⟨⟨⟨by omega, hk⟩, rfl, hc, NP (Yu a (EO x.g)) (s := a.N.g.length) (k := x.k) (by show x.k < (LN a (EO x.g)).length; omega), bl _⟩, ⟨x.g, x.k + 1⟩, ⟨rfl, rfl, λ _ _ => ⟨rfl, λ _ _ => rfl⟩, (AN (by omega)).symm, rfl, rfl⟩, ⟨⟨hc, hgr, hl, hz⟩, x1, x2, by simp only; omega⟩, by simp only; omega⟩
        · obtain ⟨xg, xk⟩ := x
          simp only at x1 x2 x3 hk ⊢
          have hx : xk = (LN a (EO xg)).length := by omega
          subst hx
          have e : IntKind.i64.wrap (EO xg + 2) = EO xg + 2 := LO (by unfold EO; omega) (by unfold EO; omega)
          refine ⟨xg + 1, ⟨?_, rfl, rfl⟩, ⟨⟨hc, hgr, hl, hz⟩, by omega⟩, by omega⟩
          rw [e]; unfold EO; omega
      · have hq : g = 2 := by unfold EO at hgt; omega
        subst hq
        rw [hV]; exact ⟨rfl, rfl, hR⟩
theorem ok41 : AI Try.prog 41 (C41.spec dGr) := HQ C41 A41 [] [] Try.func41 (λ _ => by kernel_rfl) (λ _ => AA Uf (AA So (AA ok76 (AA Yw (AA Wv (AA ok71 AF)))))) (λ a h => p41 a h.1 h.2) (λ _ => IL rfl rfl) _
end Go.Bal
