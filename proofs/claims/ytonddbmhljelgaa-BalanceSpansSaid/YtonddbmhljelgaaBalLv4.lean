/- The reference: fits, Suspects. -/
import Derived.Test.YtonddbmhljelgaaBalLv2
set_option linter.unusedVariables false
set_option linter.unusedSimpArgs false
namespace Go.Bal
open Go Go.Sym Go.Proofs
def KP (N : NetL) : Int := if AC N = 0 /\ BU N > 0 then 6 else AC N
def C76 : Ctr := { α := NetL, xs := Yg, val := λ N => .int (KP N), pre := λ N => [N.g.length <= 1000000 /\ N.r.length <= 1000000] }
def V76 (N : NetL) : Prop := BC Try.prog (ann 17 [(18, C18.spec dN)]) Try.f76 (AH Try.f76) (C76.xs N) (AE []) (C76.val N) (C76.keep N) [] []
theorem vc76 (N : NetL) : (V76 N) = (((AD N.g.length λ (i : Nat) => gD N.g i).length = N.g.length /\ (∀ (i : Nat), i < (AD N.g.length λ (i : Nat) => gD N.g i).length -> (gD (AD N.g.length λ (i : Nat) => gD N.g i)
 i).lo = (gD N.g i).lo /\ (gD (AD N.g.length λ (i : Nat) => gD N.g i) i).hi = (gD N.g i).hi) /\ (AD N.r.length λ (i : Nat) => gD N.r i).length = N.r.length /\ (∀ (i : Nat), i < (AD N.r.length λ (i : Nat) => gD N.r
 i).length -> (gD (AD N.r.length λ (i : Nat) => gD N.r i) i).fr = (gD N.r i).fr /\ (gD (AD N.r.length λ (i : Nat) => gD N.r i) i).to = (gD N.r i).to /\ (gD (AD N.r.length λ (i : Nat) => gD N.r i) i).sp.lo = (gD N.r
 i).sp.lo /\ (gD (AD N.r.length λ (i : Nat) => gD N.r i) i).sp.hi = (gD N.r i).sp.hi) /\ (AD N.g.length λ (i : Nat) => gD N.g i).length <= 1000000 /\ (AD N.r.length λ (i : Nat) => gD N.r i).length <= 1000000) /\ bif
 bif AC (NetL.mk (AD N.g.length λ (i : Nat) => gD N.g i) (AD N.r.length λ (i : Nat) => gD N.r i)) == 0 then decide (BU (NetL.mk (AD N.g.length λ (i : Nat) => gD N.g i) (AD N.r.length λ (i : Nat) => gD
 N.r i)) > 0) else false then KP N = 6 else KP N = AC (NetL.mk (AD N.g.length λ (i : Nat) => gD N.g i) (AD N.r.length λ (i : Nat) => gD N.r i))) := by kernel_rfl
theorem p76 (N : NetL) (h1 : N.g.length <= 1000000 /\ N.r.length <= 1000000) : V76 N := by
 have et : NetL.mk N.g N.r = N := rfl
 rw [vc76]; simp only [CC, eq_self, implies_true, forall_const, et]
 refine ⟨h1, λ h => ?_, λ h => ?_⟩
 ·by_cases hc : AC N = 0
  ·rw [hc] at h
   exact if_pos ⟨hc, of_decide_eq_true h⟩
  ·have : (AC N == 0) = false := by simpa using hc
   rw [this] at h; cases h
 ·by_cases hc : AC N = 0
  ·rw [hc] at h
   exact if_neg λ h' => of_decide_eq_false h h'.2
  ·exact if_neg λ h' => hc h'.1
theorem ok76 : AI Try.prog 76 (C76.spec dN) := HQ C76 (λ _ => ann 17 [(18, C18.spec dN)]) [] [] Try.func76 (λ _ => by kernel_rfl) (λ _ => AA ok18 AF) (λ a h => p76 a h) (λ _ => IL rfl rfl) _
structure SuI where
 i : Nat
 k : Nat
 deriving Inhabited
def Gg (N : NetL) (x : SuI) : Int := KY (gD (AQ N) x.k) (gD N.r x.i)
def Gr (N : NetL) (i : Nat) : Nat -> Span
 | 0 => ⟨-100000000, 100000000⟩
 | k + 1 => PQ (Gr N i k) (Gg N ⟨i, k⟩) (QE N k i)
def Cy (N : NetL) (i : Nat) : Nat -> Bool
 | 0 => true
 | k + 1 => bif (bif Gg N ⟨i, k⟩ == 0 then decide (QE N k i > 0) else false) then false else Cy N i k
def Zw (N : NetL) (i : Nat) : Bool := Cy N i (AQ N).length && decide ((Gr N i (AQ N).length).lo <= (Gr N i (AQ N).length).hi)
def LP (N : NetL) (n : Nat) : List Int := ((List.range n).filter λ i => Zw N i).map λ (i : Nat) => (i : Int)
def Oy (N : NetL) (v : AVal) (i : Nat) : List (Nat × AVal) := [(1, .bptr 203 0), (6, .d (HK (AV N))), (7, .d (eLL (AQ N))), (8, v), (9, .int i)]
def Ur (N : NetL) (v : AVal) (x : SuI) : List (Nat × AVal) := Oy N v x.i ++ [(10, .bptr 205 0), (11, .bool (Cy N x.i x.k)), (12, .int x.k)]
def rsO (N : NetL) (x : SuI) : HCell := .live (.box [.int (Gr N x.i x.k).lo, .int (Gr N x.i x.k).hi])
def Mk (N : NetL) (i : Nat) : AVal := .own 204 1 0 (LP N i).length
def Mi (N : NetL) (i : Nat) : HCell := Bx (LP N i).length (LP N i)
def Vd (N : NetL) (m : Nat) (x : SuI) : Prop := AC N = 0 /\ x.i < N.r.length /\ N.r.length - x.i = m /\ x.k <= (AQ N).length
def Jz (N : NetL) (m : Nat) (i : Nat) : Prop := AC N = 0 /\ i < N.r.length /\ N.r.length - i = m
def A26 (N : NetL) : Ann := { ann 102 [(18, C18.spec dN), (53, C53.spec d53), (54, C54.spec d54), (71, s71)] with mt := λ id => id == 22, cutIn := λ gs id => if id = 7 then some [{ α := One, dflt := default, T := λ _ => ⟨[(1, .bptr 203 0), (6, .d (HK (AV N)))], [(203, EZ N)]⟩, inv := λ _ => AC N = 0 /\ BU N ≠ 0, meas := λ _ => 0, first := [(203, 1000)], ffz := [7048] }] else if id = 11 then if gs.getD 1 0 = 1 then some [{ α := Nat, dflt := 0, T := λ i => ⟨Oy N (Mk N (i + 1)) i, [(203, EZ N), (204, Mi N (i + 1))]⟩, inv := Jz N (gs.getD 0 0), meas := λ _ => 0, first := [(204, 23048)] }, { α := Nat, dflt := 0, T := λ i => ⟨Oy N (Mk N (i + 1)) i, [(203, EZ N), (204, Mi N (i + 1))]⟩, inv := Jz N (gs.getD 0 0), meas := λ _ => 0 }] else some [{ α := Nat, dflt := 0, T := λ i => ⟨Oy N (Mk N (i + 1)) i, [(203, EZ N), (204, Mi N (i + 1))]⟩, inv := Jz N (gs.getD 0 0), meas := λ _ => 0, first := [(204, 23048)] }, { α := Nat, dflt := 0, T := λ i => ⟨Oy N LC i, [(203, EZ N)]⟩, inv := λ i => Jz N (gs.getD 0 0) i /\ LP N (i + 1) = [], meas := λ _ => 0 }] else none, loops := λ id => if id = 10 then some [{ α := Nat, dflt := 0, T := λ i => ⟨Oy N LC i, [(203, EZ N)]⟩, inv := λ i => AC N = 0 /\ BU N ≠ 0 /\ i <= N.r.length /\ LP N i = [], meas := λ i => N.r.length - i, tag := [0] }, { α := Nat, dflt := 0, T := λ i => ⟨Oy N (Mk N i) i, [(203, EZ N), (204, Mi N i)]⟩, inv := λ i => AC N = 0 /\ BU N ≠ 0 /\ i <= N.r.length, meas := λ i => N.r.length - i, tag := [1] }] else none, inner := λ gs id => if id = 15 then if gs.getD 1 0 = 1 then some [{ α := SuI, dflt := default, T := λ x => ⟨Ur N (Mk N x.i) x, [(203, EZ N), (204, Mi N x.i), (205, rsO N x)]⟩, inv := Vd N (gs.getD 0 0), meas := λ x => (AQ N).length - x.k, first := [(205, 13016)] }] else some [{ α := SuI, dflt := default, T := λ x => ⟨Ur N LC x, [(203, EZ N), (205, rsO N x)]⟩, inv := λ x => Vd N (gs.getD 0 0) x /\ LP N x.i = [], meas := λ x => (AQ N).length - x.k, first := [(205, 13016)] }] else none }
def Mn (N : NetL) : Int := if AC N = 0 then if BU N = 0 then 8 else 0 else AC N
def Ts (N : NetL) : List Int := if Mn N = 0 then LP N N.r.length else []
def C26 : Ctr := { α := NetL, xs := Yg, val := λ N => .tup [.d (AW (Ts N)), .int (Mn N)], pre := λ N => [N.g.length <= 1000000 /\ N.r.length <= 1000000] }
def V26 (N : NetL) : Prop := BC Try.prog (A26 N) Try.f26 (AH Try.f26) (C26.xs N) (AE []) (C26.val N) (C26.keep N) [] [204]
theorem vc26 (N : NetL) : (V26 N) = (let q := N
 let y0 : List Span := AD q.g.length λ (i : Nat) => gD q.g i
 let y1 := y0.length
 let y2 := y1 = q.g.length
 let y3 (i : Nat) : Span := gD y0 i
 let y4 := ∀ (i : Nat), i < y1 -> (y3 i).lo = (gD q.g i).lo /\ (y3 i).hi = (gD q.g i).hi
 let y5 : List Reach := AD q.r.length λ (i : Nat) => gD q.r i
 let y6 := y5.length
 let y7 := y6 = q.r.length
 let y8 (i : Nat) : Reach := gD y5 i
 let y9 (i : Nat) : Span := (y8 i).sp
 let y10 := ∀ (i : Nat), i < y6 -> (y8 i).fr = (gD q.r i).fr /\ (y8 i).to = (gD q.r i).to /\ (y9 i).lo = (gD q.r i).sp.lo /\ (y9 i).hi = (gD q.r i).sp.hi
 let y11 : NetL := NetL.mk y0 y5
 let y12 := AC y11
 let y13 := (Ts q).length = (0 : Nat)
 let y14 := q.g.length = q.g.length
 let y15 := ∀ (i : Nat), i < q.g.length -> (gD q.g i).lo = (gD q.g i).lo /\ (gD q.g i).hi = (gD q.g i).hi
 let y16 := q.r.length = q.r.length
 let y17 := ∀ (i : Nat), i < q.r.length -> (gD q.r i).fr = (gD q.r i).fr /\ (gD q.r i).to = (gD q.r i).to /\ (gD q.r i).sp.lo = (gD q.r i).sp.lo /\ (gD q.r i).sp.hi = (gD q.r i).sp.hi
 let y18 := y14 /\ y15 /\ y16 /\ y17
 let y19 := AC q = (0 : Int) /\ BU q ≠ (0 : Int)
 let y20 : List Bool := AD (AV q).length λ (i : Nat) => gD (AV q) i
 let y21 := y20.length
 let y22 := y21 = (AV q).length
 let y23 := ∀ (i : Nat), i < y21 -> gD y20 i = gD (AV q) i
 let y24 := (0 : Int) = Int.ofNat (0 : Nat)
 let y25 := y12 = (0 : Int)
 let y26 := y21 = y1
 let y27 := (AV q).length = (AV q).length
 let y28 := ∀ (i : Nat), i < (AV q).length -> gD (AV q) i = gD (AV q) i
 let y29 : List (List Int) := AR (LvA.mk y11 y20 (0 : Int)) y1
 let y30 (i : Nat) := (gD (AQ q) i).length
 let y31 (i : Nat) : List Int := gD y29 i
 let y32 (i : Nat) (i1 : Nat) := i < y30 i1
 let y33 (i : Nat) (i1 : Nat) := gD (gD (AQ q) i) i1
 let y34 := (0 : Nat) = (0 : Nat)
 let y35 := ∀ (i : Nat), i < (0 : Nat) -> false = false
 let y36 (a : Nat) := AC q = (0 : Int) /\ BU q ≠ (0 : Int) /\ a <= q.r.length /\ LP q a = []
 let y37 (a : Nat) := decide ((↑a : Int) < (↑q.r.length : Int))
 let y38 := (AQ q).length = (AQ q).length
 let y39 := ∀ (i : Nat), i < (AQ q).length -> y30 i = y30 i /\ ∀ (i_1 : Nat), y32 i_1 i -> y33 i i_1 = y33 i i_1
 let y40 (a : SuI) (a1 : Nat) := (↑a.i : Int) = (↑a1 : Int)
 let y41 (a : SuI) := (↑a.k : Int) = (0 : Int)
 let y42 (a : SuI) := (Gr q a.i a.k).lo = (-100000000 : Int) /\ (Gr q a.i a.k).hi = (100000000 : Int)
 let y43 (a : SuI) := q.r.length - a.i
 let y44 (a : Nat) := q.r.length - a
 let y45 : List Nat := [] ++ []
 let y46 (a : Nat) := (y44 a :: ([(0 : Nat)] ++ y45)).getD (0 : Nat) (0 : Nat)
 let y47 (a : SuI) := a.k <= (AQ q).length
 let y48 (a : SuI) (a1 : Nat) := (AC q = (0 : Int) /\ a.i < q.r.length /\ y43 a = y46 a1 /\ y47 a) /\ LP q a.i = []
 let y49 (a : SuI) := (↑a.k : Int) < (↑(AQ q).length : Int)
 let y50 (a : SuI) := decide (y49 a)
 let y51 (a : SuI) := (0 : Int) <= (↑a.k : Int) /\ y49 a
 let y52 (a : SuI) := (0 : Int) <= (↑a.i : Int) /\ (↑a.i : Int) < (↑q.r.length : Int)
 let y53 (a : SuI) := (gD (AQ q) a.k).length
 let y54 (a : SuI) (i : Nat) := gD (gD (AQ q) a.k) i
 let y55 (a : SuI) : List Int := AD (y53 a) λ (i : Nat) => y54 a i
 let y56 (a : SuI) := (y55 a).length
 let y57 (a : SuI) := y51 a /\ y52 a /\ ((0 : Int) <= (gD q.r a.i).to /\ (gD q.r a.i).to < (↑(y53 a) : Int)) /\ y51 a /\ y52 a /\ ((0 : Int) <= (gD q.r a.i).fr /\ (gD q.r a.i).fr < (↑(y53 a) : Int)) /\ y51 a /\ y2 /\ y4 /\ y7 /\ y10 /\ y56 a = y53 a /\ (∀ (i : Nat), i < y56 a -> gD (y55 a) i = y54 a i) /\ y22 /\ y23 /\ y24 /\ (↑a.i : Int) = (↑a.i : Int) /\ y25 /\ y56 a = y1 /\ y26
 let y58 (a : SuI) := IntKind.i64.wrap (gD (gD (AQ q) a.k) (gD q.r a.i).to.toNat - gD (gD (AQ q) a.k) (gD q.r a.i).fr.toNat)
 let y59 (a : SuI) := KN (PvA.mk y11 (y55 a) y20 (0 : Int) (↑a.i : Int)) y1
 let y60 (a : SuI) := bif y58 a == (0 : Int) then decide (y59 a > (0 : Int)) else false
 let y61 (a : SuI) (a1 : SuI) := (↑a.i : Int) = (↑a1.i : Int)
 let y62 (a : SuI) (a1 : SuI) := (↑a.k : Int) = IntKind.i64.wrap ((↑a1.k : Int) + (1 : Int))
 let y63 (a : SuI) : Span := PQ (Gr q a.i a.k) (y58 a) (y59 a)
 let y64 (a : SuI) (a1 : SuI) := (Gr q a.i a.k).lo = (y63 a1).lo /\ (Gr q a.i a.k).hi = (y63 a1).hi
 let y65 (a : SuI) (a1 : SuI) := y62 a a1 /\ y14 /\ y15 /\ y16 /\ y17 /\ y64 a a1
 let y66 (a : SuI) := (AQ q).length - a.k
 let y67 (a : SuI) (a1 : SuI) := y66 a < y66 a1
 let y68 (a : SuI) (a1 : Nat) (a2 : SuI) := y48 a a1 /\ y67 a a2
 let y69 (a : SuI) (a1 : SuI) := Cy q a.i a.k = Cy q a1.i a1.k
 let y70 (a : SuI) := bif Cy q a.i a.k then decide ((Gr q a.i a.k).lo <= (Gr q a.i a.k).hi) else false
 let y71 := (0 : Nat) < (1 : Nat)
 let y72 := (1 : Nat) = (1 : Nat)
 let y73 := (1 : Nat) <= (1 : Nat) /\ (y71 -> y72)
 let y74 (a : Nat) : List Int := LP q (a + (1 : Nat))
 let y75 (a : Nat) := (y74 a).length
 let y76 (a : Nat) := y75 a = (1 : Nat)
 let y77 (a : Nat) (a1 : SuI) := (↑a : Int) = (↑a1.i : Int)
 let y78 (i : Nat) (a : Nat) := i < y75 a
 let y79 (a : Nat) (i : Nat) := gD (y74 a) i
 let y80 (a : Nat) (a1 : Nat) := AC q = (0 : Int) /\ a < q.r.length /\ y44 a = y46 a1
 let y81 (a : Nat) (a1 : Nat) := y80 a a1 /\ y74 a = []
 let y82 (a : Nat) (a1 : Nat) := (LP q a).length = y75 a1
 let y83 (a : Nat) (a1 : Nat) := (↑a : Int) = IntKind.i64.wrap ((↑a1 : Int) + (1 : Int))
 let y84 (a : Nat) := AC q = (0 : Int) /\ BU q ≠ (0 : Int) /\ a <= q.r.length
 let y85 (a : Nat) (a1 : Nat) := y44 a < y44 a1
 let y86 (a : Nat) (a1 : Nat) := ∃ (a_1 : Nat), (y27 /\ y28 /\ y38 /\ y39 /\ y34 /\ y82 a_1 a /\ y83 a_1 a /\ y14 /\ y15 /\ y16 /\ y17 /\ y82 a_1 a /\ ∀ (i : Nat), i < (LP q a_1).length -> gD (LP q a_1) i = y79 a i) /\ y84 a_1 /\ y85 a_1 a1
 let y87 (a : SuI) (a1 : Nat) := (LP q a.i).length = (LP q a1).length
 let y88 (i : Nat) (a : SuI) := i < (LP q a.i).length
 let y89 (a : Nat) := (y44 a :: ([(1 : Nat)] ++ y45)).getD (0 : Nat) (0 : Nat)
 let y90 (a : SuI) (a1 : Nat) := AC q = (0 : Int) /\ a.i < q.r.length /\ y43 a = y89 a1 /\ y47 a
 let y91 (a : SuI) (a1 : SuI) := (LP q a.i).length = (LP q a1.i).length
 let y92 (a : SuI) (a1 : SuI) := y62 a a1 /\ y14 /\ y15 /\ y16 /\ y17 /\ y91 a a1 /\ (∀ (i : Nat), y88 i a -> gD (LP q a.i) i = gD (LP q a1.i) i) /\ y64 a a1
 let y93 (a : SuI) (a1 : Nat) (a2 : SuI) := y90 a a1 /\ y67 a a2
 let y94 (a : SuI) := (LP q a.i).length + (1 : Nat)
 let y95 (a : Nat) (a1 : SuI) := y75 a = y94 a1
 let y96 (a : Nat) (a1 : Nat) := AC q = (0 : Int) /\ a < q.r.length /\ y44 a = y89 a1
 let y97 (a : Nat) (a1 : SuI) := y75 a = (LP q a1.i).length
 let y98 (a : Nat) := ∀ (a_1 : Nat), y96 a_1 a -> y86 a_1 a
 ((y2 /\ y4 /\ y7 /\ y10 /\ y1 <= (1000000 : Nat) /\ y6 <= (1000000 : Nat)) /\ bif y12 != (0 : Int) then y13 /\ y13 /\ Mn N = y12 else bif
 BU y11 == (0 : Int) then y13 /\ y13 /\ Mn N = (8 : Int) else (((0 : Int) <= (↑N.g.length : Int) /\ (↑N.g.length : Int) = (↑N.g.length : Int) /\ (↑N.g.length : Int) <= (9223372036854775807 : Int) /\ (↑(1 :
 Nat) : Int) * (↑N.g.length : Int) <= (281474976710656 : Int)) /\ ∃ (a : One), ((AV N).length = N.g.length /\ (0 : Nat) + N.g.length <= N.g.length /\ (∀ (j : Nat), j < (AV N).length -> gD (AV N) j = false) /\ y18)
 /\ y19) /\ ∀ (a : One), y19 -> (y2 /\ y4 /\ y7 /\ y10 /\ y22 /\ y23 /\ y24 /\ y25 /\ y26 /\ (-1 : Int) <= (0 : Int) /\ (0 : Int) <= (1 : Int)) /\ (∃ (a : Nat), (y27 /\ y28 /\
 (AQ N).length = y29.length /\ (∀ (i : Nat), i < (AQ N).length -> y30 i = (y31 i).length /\ ∀ (i_1 : Nat), y32 i_1 i -> y33 i i_1 = gD (y31 i) i_1) /\ y34 /\ y35 /\ (↑a : Int) = (0 :
 Int) /\ y18) /\ y36 a) /\ (∀ (a : Nat), y36 a -> bif y37 a then ((∃ (a_2 : SuI), (y27 /\ y28 /\ y38 /\ y39 /\ y34 /\ y35 /\ y40 a_2 a /\ Cy N a_2.i a_2.k = true /\ y41 a_2 /\
 y14 /\ y15 /\ y16 /\ y17 /\ y42 a_2) /\ y48 a_2 a) /\ ∀ (a_2 : SuI), y48 a_2 a -> bif y50 a_2 then y57 a_2 /\ bif y60 a_2 then ∃ (a_4 : SuI), (y27 /\ y28 /\ y38 /\
 y39 /\ y34 /\ y35 /\ y61 a_4 a_2 /\ Cy N a_4.i a_4.k = false /\ y65 a_4 a_2) /\ y68 a_4 a a_2 else ∃ (a_4 : SuI), (y27 /\ y28 /\ y38 /\ y39 /\ y34 /\ y35 /\ y61 a_4 a_2 /\ y69 a_4 a_2 /\ y65 a_4 a_2) /\ y68 a_4 a a_2 else bif y70 a_2 then ((True /\ ((0 : Nat) < (0 : Nat) -> (0 : Nat) = (1 : Nat))) /\ y73 /\ (true = true -> y71) /\ (1 : Nat) <= (9223372036854775807 : Nat) /\ (8 :
 Nat) <= (140737488355328 : Nat)) /\ ∃ (a_4 : Nat), (y27 /\ y28 /\ y38 /\ y39 /\ y34 /\ y76 a_4 /\ y77 a_4 a_2 /\ y14 /\ y15 /\ y16 /\ y17 /\ y76 a_4 /\ ∀ (i : Nat), y78 i a_4 -> y79 a_4 i = (↑a_2.i : Int)) /\ y80 a_4 a else ∃ (a_4 : Nat), (y27 /\ y28 /\ y38 /\ y39 /\ y34 /\ y35 /\ y77 a_4 a_2 /\ y18) /\ y81 a_4 a) /\ (∀ (a_2 : Nat), y80 a_2 a ->
 y86 a_2 a) /\ ∀ (a_2 : Nat), y81 a_2 a -> ∃ (a_4 : Nat), (y27 /\ y28 /\ y38 /\ y39 /\ y34 /\ y35 /\ y83 a_4 a_2 /\ y18) /\ y36 a_4 /\ y85 a_4 a else y13 /\ y13 /\ Mn N
 = (0 : Int)) /\ ∀ (a : Nat), y84 a -> bif y37 a then ((∃ (a_2 : SuI), (y27 /\ y28 /\ y38 /\ y39 /\ y34 /\ y87 a_2 a /\ y40 a_2 a /\ Cy N a_2.i a_2.k = true /\ y41 a_2 /\ y14 /\
 y15 /\ y16 /\ y17 /\ y87 a_2 a /\ (∀ (i : Nat), y88 i a_2 -> gD (LP N a_2.i) i = gD (LP N a) i) /\ y42 a_2) /\ y90 a_2 a) /\ ∀ (a_2 : SuI), y90 a_2 a -> bif y50 a_2 then y57 a_2
 /\ bif y60 a_2 then ∃ (a_4 : SuI), (y27 /\ y28 /\ y38 /\ y39 /\ y34 /\ y91 a_4 a_2 /\ y61 a_4 a_2 /\ Cy N a_4.i a_4.k = false /\ y92 a_4 a_2) /\ y93 a_4 a a_2 else ∃ (a_4 : SuI),
 (y27 /\ y28 /\ y38 /\ y39 /\ y34 /\ y91 a_4 a_2 /\ y61 a_4 a_2 /\ y69 a_4 a_2 /\ y92 a_4 a_2) /\ y93 a_4 a a_2 else bif y70 a_2 then (((LP N a_2.i).length = (LP N a_2.i).length
 /\ ((0 : Nat) < (LP N a_2.i).length -> y72)) /\ y73 /\ (false = true -> y71) /\ y94 a_2 <= (9223372036854775807 : Nat) /\ y94 a_2 * (8 : Nat) <= (140737488355328 : Nat)) /\ ∃ (a_4 : Nat), (y27 /\ y28 /\
 y38 /\ y39 /\ y34 /\ y95 a_4 a_2 /\ y77 a_4 a_2 /\ y14 /\ y15 /\ y16 /\ y17 /\ y95 a_4 a_2 /\ ∀ (i : Nat), y78 i a_4 -> y79 a_4 i = bif decide (y88 i a_2) then gD (LP N
 a_2.i) i else (↑a_2.i : Int)) /\ y96 a_4 a else ∃ (a_4 : Nat), (y27 /\ y28 /\ y38 /\ y39 /\ y34 /\ y97 a_4 a_2 /\ y77 a_4 a_2 /\ y14 /\ y15 /\ y16 /\ y17 /\ y97 a_4 a_2 /\
 ∀ (i : Nat), y78 i a_4 -> y79 a_4 i = gD (LP N a_2.i) i) /\ y96 a_4 a) /\ y98 a /\ y98 a else (Ts N).length = (LP N a).length /\ (0 : Nat) + (LP N a).length <= (LP N a).length /\ (∀ (j : Nat), j <
 (Ts N).length -> gD (Ts N) j = gD (LP N a) ((0 : Nat) + j)) /\ Mn N = (0 : Int))) := by kernel_rfl
theorem Py {N : NetL} {i : Nat} (h : Zw N i = true) : LP N (i + 1) = LP N i ++ [(i : Int)] := by
 simp [LP, List.range_succ, List.filter_append, h]
theorem Vt {N : NetL} {i : Nat} (h : Zw N i = false) : LP N (i + 1) = LP N i := by
 simp [LP, List.range_succ, List.filter_append, h]
theorem Zc (N : NetL) (n : Nat) : (LP N n).length <= n := by
 unfold LP
 rw [List.length_map]
 have := List.length_filter_le (λ i => Zw N i) (List.range n)
 rw [List.length_range] at this; exact this
theorem Hr (N : NetL) (i : Nat) : Zw N i = bif Cy N i (AQ N).length then decide ((Gr N i (AQ N).length).lo <= (Gr N i (AQ N).length).hi) else false := by
 unfold Zw; cases Cy N i (AQ N).length <;> rfl
theorem p26 (N : NetL) (h1 : N.g.length <= 1000000 /\ N.r.length <= 1000000) : V26 N := by
 have et : NetL.mk N.g N.r = N := rfl
 have nl : (AV N).length = N.g.length := by simp [AV]
 have ea : AR (LvA.mk N (AV N) 0) N.g.length = AQ N := rfl
 rw [vc26]; (conv => zeta); simp only [CC, eq_self, implies_true, forall_const, et, ea, Vd, Jz, List.cons_append, List.nil_append, List.append_nil, List.getD_cons_zero, List.getD_cons_succ]
 refine ⟨h1, λ hc => ?a, λ hc => ⟨λ hl => ?b, λ hl => ?c⟩⟩
 case c =>
  have hc : AC N = 0 := by simpa using hc
  have hl : BU N ≠ 0 := by simpa using hl
  have hg := AS hc
  have hg8 := hg.g8
  have hr14 := hg.r14
  have hb : (AQ N).length <= 6561 := QX (Hy N) hg8
  have lk : ∀ k, k < (AQ N).length -> (gD (AQ N) k).length = N.g.length := λ k hk => NP (Hy N) (s := N.g.length) (k := k) hk
  have hrE : Mn N = 0 := by unfold Mn; rw [if_pos hc, if_neg hl]
  have hrT : Ts N = LP N N.r.length := if_pos hrE
  refine ⟨⟨⟨by omega, by omega, by omega⟩, ⟨0⟩, ⟨nl, Nat.le_refl _, λ j hj => ?n0⟩, hc, hl⟩, λ _ => ⟨⟨rfl, hc, nl, by decide, by decide⟩, ⟨0, rfl, hc, hl, Nat.zero_le _, rfl⟩, λ i hi => ?nil, λ i hi => ?own⟩⟩
  case n0 => rw [nl] at hj; simp [AV, CM, hj]
  case nil =>
   obtain ⟨_, _, q1, q2⟩ := hi
   refine ⟨λ hlt => ⟨⟨⟨⟨i, 0⟩, ⟨rfl, rfl, rfl, rfl, rfl⟩, ⟨hc, by simp only; omega, rfl, Nat.zero_le _⟩, q2⟩, λ x ⟨⟨_, x1, x2, x3⟩, x4⟩ => ⟨λ hk => ?st, λ hk => ?ex⟩⟩, ?cw, ?cn⟩, λ hge => ?fin⟩
   case st =>
    obtain ⟨_, b1, b2, _⟩ := hg.r x.i x1
    exact ⟨⟨⟨by omega, hk⟩, ⟨by omega, by omega⟩, ⟨by omega, by rw [lk x.k (by omega)]; omega⟩, ⟨by omega, hk⟩, ⟨by omega, by omega⟩, ⟨by omega, by rw [lk x.k (by omega)]; omega⟩, ⟨by omega, hk⟩, rfl, hc, lk x.k (by omega), nl⟩, λ h => ⟨⟨x.i, x.k + 1⟩, ⟨rfl, by show Cy N x.i (x.k + 1) = _; simp only [Cy]; rw [show (bif Gg N ⟨x.i, x.k⟩ == 0 then decide (QE N x.k x.i > 0) else false) = true from h]; rfl, (AN (by omega)).symm, rfl, rfl⟩, ⟨⟨hc, x1, x2, by simp only; omega⟩, x4⟩, by simp only; omega⟩, λ h => ⟨⟨x.i, x.k + 1⟩, ⟨rfl, by show Cy N x.i (x.k + 1) = _; simp only [Cy]; rw [show (bif Gg N ⟨x.i, x.k⟩ == 0 then decide (QE N x.k x.i > 0) else false) = false from h]; rfl, (AN (by omega)).symm, rfl, rfl⟩, ⟨⟨hc, x1, x2, by simp only; omega⟩, x4⟩, by simp only; omega⟩⟩
   case ex =>
    obtain ⟨xi, xk⟩ := x
    simp only at x1 x2 x3 x4 hk ⊢
    have hx : xk = (AQ N).length := by omega
    subst hx
    refine ⟨λ h => ?_, λ h => ⟨xi, rfl, ⟨hc, x1, x2⟩, by rw [Vt (by rw [Hr]; exact h)]; exact x4⟩⟩
    have e : LP N (xi + 1) = [(xi : Int)] := by rw [Py (by rw [Hr]; exact h), x4]; rfl
    refine ⟨⟨λ h => absurd h (by decide), by decide, by decide, by decide, by decide⟩, ⟨xi, ⟨by rw [e]; rfl, rfl, by rw [e]; rfl, λ j hj => ?_⟩, hc, x1, x2⟩⟩
    rw [e] at hj ⊢
    have : j = 0 := by simpa using hj
    subst this; rfl
   case cw =>
    intro j ⟨_, j1, j2⟩
    exact ⟨j + 1, ⟨rfl, (AN (by omega)).symm, rfl, λ _ _ => rfl⟩, ⟨hc, hl, by omega⟩, by omega⟩
   case cn =>
    intro j ⟨⟨_, j1, j2⟩, j3⟩
    exact ⟨j + 1, (AN (by omega)).symm, ⟨hc, hl, by omega, j3⟩, by omega⟩
   case fin =>
    have hx : i = N.r.length := by omega
    rw [hrT, hrE, <- hx, q2]; exact ⟨rfl, rfl, rfl⟩
  case own =>
   obtain ⟨_, _, q1⟩ := hi
   refine ⟨λ hlt => ⟨⟨⟨⟨i, 0⟩, ⟨rfl, rfl, rfl, rfl, rfl, λ _ _ => rfl, rfl, rfl⟩, hc, by simp only; omega, rfl, Nat.zero_le _⟩, λ x ⟨_, x1, x2, x3⟩ => ⟨λ hk => ?st, λ hk => ?ex⟩⟩, ?cw⟩, λ hge => ?fin⟩
   case st =>
    obtain ⟨_, b1, b2, _⟩ := hg.r x.i x1
    exact ⟨⟨⟨by omega, hk⟩, ⟨by omega, by omega⟩, ⟨by omega, by rw [lk x.k (by omega)]; omega⟩, ⟨by omega, hk⟩, ⟨by omega, by omega⟩, ⟨by omega, by rw [lk x.k (by omega)]; omega⟩, ⟨by omega, hk⟩, rfl, hc, lk x.k (by omega), nl⟩, λ h => ⟨⟨x.i, x.k + 1⟩, ⟨rfl, rfl, by show Cy N x.i (x.k + 1) = _; simp only [Cy]; rw [show (bif Gg N ⟨x.i, x.k⟩ == 0 then decide (QE N x.k x.i > 0) else false) = true from h]; rfl, (AN (by omega)).symm, rfl, λ _ _ => rfl, rfl, rfl⟩, ⟨hc, x1, x2, by simp only; omega⟩, by simp only; omega⟩, λ h => ⟨⟨x.i, x.k + 1⟩, ⟨rfl, rfl, by show Cy N x.i (x.k + 1) = _; simp only [Cy]; rw [show (bif Gg N ⟨x.i, x.k⟩ == 0 then decide (QE N x.k x.i > 0) else false) = false from h]; rfl, (AN (by omega)).symm, rfl, λ _ _ => rfl, rfl, rfl⟩, ⟨hc, x1, x2, by simp only; omega⟩, by simp only; omega⟩⟩
   case ex =>
    obtain ⟨xi, xk⟩ := x
    simp only at x1 x2 x3 hk ⊢
    have hx : xk = (AQ N).length := by omega
    subst hx
    have hlen := Zc N xi
    refine ⟨λ h => ?_, λ h => ?_⟩
    ·have e := Py (N := N) (i := xi) (by rw [Hr]; exact h)
     have el : (LP N (xi + 1)).length = (LP N xi).length + 1 := by rw [e]; simp
     refine ⟨⟨by omega, λ h => absurd h (by decide), by omega, by omega⟩, ⟨xi, ⟨el, rfl, el, λ j hj => ?_⟩, hc, x1, x2⟩⟩
     rw [el] at hj
     rw [e, BO]
     by_cases h0 : j < (LP N xi).length
     ·rw [if_pos h0, decide_eq_true h0]; rfl
     ·have : j - (LP N xi).length = 0 := by omega
      rw [if_neg h0, decide_eq_false h0, this]; rfl
    ·have e := Vt (N := N) (i := xi) (by rw [Hr]; exact h)
     exact ⟨xi, ⟨by rw [e], rfl, by rw [e], λ j _ => by rw [e]⟩, hc, x1, x2⟩
   case cw =>
    intro j ⟨_, j1, j2⟩
    exact ⟨j + 1, ⟨rfl, (AN (by omega)).symm, rfl, λ _ _ => rfl⟩, ⟨hc, hl, by omega⟩, by omega⟩
   case fin =>
    have hx : i = N.r.length := by omega
    rw [hrT, hrE, <- hx]; exact ⟨rfl, Nat.le_refl _, λ _ _ => rfl, rfl⟩
 case a =>
  have hc : AC N ≠ 0 := by simpa using hc
  have e : Mn N = AC N := if_neg hc
  have e2 : Ts N = [] := if_neg (by rw [e]; exact hc)
  rw [e2, e]; exact ⟨rfl, rfl, rfl⟩
 case b =>
  have hc : AC N = 0 := by simpa using hc
  have hl : BU N = 0 := by simpa using hl
  have e : Mn N = 8 := by unfold Mn; rw [if_pos hc, if_pos hl]
  have e2 : Ts N = [] := if_neg (by rw [e]; decide)
  rw [e2, e]; exact ⟨rfl, rfl, rfl⟩
theorem ok26 : AI Try.prog 26 (C26.spec dN) := HQ C26 A26 [] [204] Try.func26 (λ _ => by kernel_rfl) (λ _ => AA ok18 (AA Yw (AA Wv (AA ok71 AF)))) (λ a h => p26 a h) (λ _ => IL rfl rfl) _
end Go.Bal
