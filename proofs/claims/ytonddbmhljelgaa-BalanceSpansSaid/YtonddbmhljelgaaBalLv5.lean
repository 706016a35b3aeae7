/- The reference: Spans, Reach2, Group. -/
import Derived.Test.YtonddbmhljelgaaBalLvU
set_option linter.unusedVariables false
set_option linter.unusedSimpArgs false
namespace Go.Bal
open Go Go.Sym Go.Proofs
def Mp (N : NetL) (i K : Nat) : Span := HO (gD N.r i).sp (λ k => Gg N ⟨i, k⟩) (λ k => QE N k i) K
def Ki (N : NetL) (i K : Nat) : Span := HO (gD N.g i) (λ k => gD (gD (AQ N) k) i) (λ k => QE N k (wr ((i : Int) + 100))) K
def TL (N : NetL) (n : Nat) : List Span := (List.range n).map λ i => Mp N i (AQ N).length
def Am (N : NetL) (n : Nat) : List Span := (List.range n).map λ i => Ki N i (AQ N).length
def spO (s : Span) : HCell := .live (.box [.int s.lo, .int s.hi])
def Pm (n : Nat) (l : List Span) : HCell := .live (.row 2 n λ i => EU (gD l i))
def Ly (N : NetL) (f g : AVal) (p : Nat) (i : Nat) : List (Nat × AVal) := [(1, .bptr 203 0), (6, .d (HK (AV N))), (7, .d (eLL (AQ N))), (8, f), (9, g), (p, .int i)]
def spI (N : NetL) (n m : Nat) (x : SuI) : Prop := AC N = 0 /\ BU N = 0 /\ x.i < n /\ n - x.i = m /\ x.k <= (AQ N).length
def Vz (N : NetL) : Shape := { α := Nat, dflt := 0, T := λ i => ⟨Ly N LC LC 10 i, [(203, EZ N)]⟩, inv := λ i => AC N = 0 /\ BU N = 0 /\ i = 0, meas := λ i => N.r.length - i, tag := [0] }
def Ns (N : NetL) : Shape := { α := Nat, dflt := 0, T := λ i => ⟨Ly N (.own 204 2 0 i) LC 10 i, [(203, EZ N), (204, Pm i (TL N i))]⟩, inv := λ i => AC N = 0 /\ BU N = 0 /\ i <= N.r.length, meas := λ i => N.r.length - i, again := [(204, 16048)], tag := [1] }
def Ww (N : NetL) (m : Nat) : Shape := { α := SuI, dflt := default, T := λ x => ⟨Ly N LC LC 10 x.i ++ [(11, .bptr 205 0), (12, .int x.k)], [(203, EZ N), (205, spO (Mp N x.i x.k))]⟩, inv := λ x => spI N N.r.length m x /\ x.i = 0, meas := λ x => (AQ N).length - x.k, first := [(205, 11096)] }
def Wu (N : NetL) (m : Nat) : Shape := { α := SuI, dflt := default, T := λ x => ⟨Ly N (.own 204 2 0 x.i) LC 10 x.i ++ [(11, .bptr 205 0), (12, .int x.k)], [(203, EZ N), (204, Pm x.i (TL N x.i)), (205, spO (Mp N x.i x.k))]⟩, inv := λ x => spI N N.r.length m x, meas := λ x => (AQ N).length - x.k, first := [(205, 11096)] }
def Ui (N : NetL) : AVal := SG (TL N N.r.length)
def Cj (N : NetL) : Shape := { α := Nat, dflt := 0, T := λ i => ⟨Ly N (Ui N) LC 13 i, [(203, EZ N)]⟩, inv := λ i => AC N = 0 /\ BU N = 0 /\ i = 0, meas := λ i => N.g.length - i, tag := [0] }
def VS (N : NetL) : Shape := { α := Nat, dflt := 0, T := λ i => ⟨Ly N (Ui N) (.own 204 2 0 i) 13 i, [(203, EZ N), (204, Pm i (Am N i))]⟩, inv := λ i => AC N = 0 /\ BU N = 0 /\ i <= N.g.length, meas := λ i => N.g.length - i, again := [(204, 25048)], tag := [1] }
def Qt (N : NetL) (m : Nat) : Shape := { α := SuI, dflt := default, T := λ x => ⟨Ly N (Ui N) LC 13 x.i ++ [(14, .bptr 205 0), (15, .int x.k)], [(203, EZ N), (205, spO (Ki N x.i x.k))]⟩, inv := λ x => spI N N.g.length m x /\ x.i = 0, meas := λ x => (AQ N).length - x.k, first := [(205, 20080)] }
def Pj (N : NetL) (m : Nat) : Shape := { α := SuI, dflt := default, T := λ x => ⟨Ly N (Ui N) (.own 204 2 0 x.i) 13 x.i ++ [(14, .bptr 205 0), (15, .int x.k)], [(203, EZ N), (204, Pm x.i (Am N x.i)), (205, spO (Ki N x.i x.k))]⟩, inv := λ x => spI N N.g.length m x, meas := λ x => (AQ N).length - x.k, first := [(205, 20080)] }
def Ml (N : NetL) (fz : List Nat) : Shape := { α := One, dflt := default, T := λ _ => ⟨[(1, .bptr 203 0), (6, .d (HK (AV N))), (7, .d (eLL (AQ N))), (8, Ui N), (9, LC)], [(203, EZ N)]⟩, inv := λ _ => AC N = 0 /\ BU N = 0, meas := λ _ => 0, ffz := fz }
def A36 (N : NetL) : Ann := { ann 128 [(76, C76.spec dN), (53, C53.spec d53), (54, C54.spec d54), (71, s71)] with mt := λ id => id == 15 || id == 24, cutIn := λ gs id => if id = 5 then some [{ α := One, dflt := default, T := λ _ => ⟨[(1, .bptr 203 0), (6, .d (HK (AV N)))], [(203, EZ N)]⟩, inv := λ _ => AC N = 0 /\ BU N = 0, meas := λ _ => 0, first := [(203, 1000)], ffz := [5048] }] else if id = 16 then some [Ml N [204], Ml N []] else none, loops := λ id => if id = 8 then some [Vz N, Ns N] else if id = 17 then some [Cj N, VS N] else none, inner := λ gs id => if id = 12 then if gs.getD 1 0 = 1 then some [Wu N (gs.getD 0 0)] else some [Ww N (gs.getD 0 0)] else if id = 21 then if gs.getD 1 0 = 1 then some [Pj N (gs.getD 0 0)] else some [Qt N (gs.getD 0 0)] else none }
def QN (N : NetL) : List Span := if KP N = 0 then TL N N.r.length else []
def Et (N : NetL) : List Span := if KP N = 0 then Am N N.g.length else []
def C36 : Ctr := { α := NetL, xs := Yg, val := λ N => .tup [SG (QN N), SG (Et N), .int (KP N)], pre := λ N => [N.g.length <= 1000000 /\ N.r.length <= 1000000] }
def V36 (N : NetL) : Prop := BC Try.prog (A36 N) Try.f36 (AH Try.f36) (C36.xs N) (AE []) (C36.val N) (C36.keep N) [] [204]
theorem vc36 (N : NetL) : (V36 N) = (let q := N
 let y0 : List Span := AD q.g.length λ (i : Nat) => gD q.g i
 let y1 := y0.length
 let y2 := y1 = q.g.length
 let y3 (i : Nat) : Span := gD y0 i
 let y4 := ∀ (i : Nat), i < y1 -> (y3 i).lo = (gD q.g i).lo /\ (y3 i).hi = (gD q.g i).hi
 let y5 : List Reach := AD q.r.length λ (i : Nat) => gD q.r i
 let y6 := y5.length
 let y7 := y6 = q.r.length
 let y8 (i : Nat) : Reach := gD y5 i
 let y9 (i : Nat) : Span := (y8 i).sp
 let y10 := ∀ (i : Nat), i < y6 -> (y8 i).fr = (gD q.r i).fr /\ (y8 i).to = (gD q.r i).to /\ (y9 i).lo = (gD q.r i).sp.lo /\ (y9 i).hi = (gD q.r i).sp.hi
 let y11 : NetL := NetL.mk y0 y5
 let y12 := KP y11
 let y13 := (QN q).length = (0 : Nat)
 let y14 := (Et q).length = (0 : Nat)
 let y15 := q.g.length = q.g.length
 let y16 := ∀ (i : Nat), i < q.g.length -> (gD q.g i).lo = (gD q.g i).lo /\ (gD q.g i).hi = (gD q.g i).hi
 let y17 := q.r.length = q.r.length
 let y18 := ∀ (i : Nat), i < q.r.length -> (gD q.r i).fr = (gD q.r i).fr /\ (gD q.r i).to = (gD q.r i).to /\ (gD q.r i).sp.lo = (gD q.r i).sp.lo /\ (gD q.r i).sp.hi = (gD q.r i).sp.hi
 let y19 := y15 /\ y16 /\ y17 /\ y18
 let y20 := AC q = (0 : Int) /\ BU q = (0 : Int)
 let y21 : List Bool := AD (AV q).length λ (i : Nat) => gD (AV q) i
 let y22 := y21.length
 let y23 := y22 = (AV q).length
 let y24 := ∀ (i : Nat), i < y22 -> gD y21 i = gD (AV q) i
 let y25 := (0 : Int) = Int.ofNat (0 : Nat)
 let y26 := AC y11 = (0 : Int)
 let y27 := y22 = y1
 let y28 := (AV q).length = (AV q).length
 let y29 := ∀ (i : Nat), i < (AV q).length -> gD (AV q) i = gD (AV q) i
 let y30 : List (List Int) := AR (LvA.mk y11 y21 (0 : Int)) y1
 let y31 (i : Nat) := (gD (AQ q) i).length
 let y32 (i : Nat) : List Int := gD y30 i
 let y33 (i : Nat) (i1 : Nat) := i < y31 i1
 let y34 (i : Nat) (i1 : Nat) := gD (gD (AQ q) i) i1
 let y35 := (0 : Nat) = (0 : Nat)
 let y36 := ∀ (i : Nat), i < (0 : Nat) -> false = false
 let y37 (a : Nat) := y35 /\ y36 /\ (↑a : Int) = (0 : Int) /\ y19
 let y38 (a : Nat) := AC q = (0 : Int) /\ BU q = (0 : Int) /\ a = (0 : Nat)
 let y39 (a : Nat) := (↑a : Int) < (↑q.r.length : Int)
 let y40 (a : Nat) := decide (y39 a)
 let y41 (a : Nat) := (0 : Int) <= (↑a : Int)
 let y42 (a : Nat) := y41 a /\ y39 a
 let y43 := (AQ q).length = (AQ q).length
 let y44 := ∀ (i : Nat), i < (AQ q).length -> y31 i = y31 i /\ ∀ (i_1 : Nat), y33 i_1 i -> y34 i i_1 = y34 i i_1
 let y45 (a : SuI) (a1 : Nat) := (↑a.i : Int) = (↑a1 : Int)
 let y46 (a : SuI) := (↑a.k : Int) = (0 : Int)
 let y47 (a : SuI) (a1 : Nat) := (Mp q a.i a.k).lo = (gD q.r a1).sp.lo /\ (Mp q a.i a.k).hi = (gD q.r a1).sp.hi
 let y48 (a : SuI) := q.r.length - a.i
 let y49 : List Nat := [] ++ []
 let y50 (a : Nat) := ((Vz q).meas a :: ((Vz q).tag ++ y49)).getD (0 : Nat) (0 : Nat)
 let y51 (a : SuI) := a.k <= (AQ q).length
 let y52 (a : SuI) (a1 : Nat) := (AC q = (0 : Int) /\ BU q = (0 : Int) /\ a.i < q.r.length /\ y48 a = y50 a1 /\ y51 a) /\ a.i = (0 : Nat)
 let y53 (a : SuI) := (↑a.k : Int) < (↑(AQ q).length : Int)
 let y54 (a : SuI) := decide (y53 a)
 let y55 (a : SuI) := (0 : Int) <= (↑a.k : Int) /\ y53 a
 let y56 (a : SuI) := (0 : Int) <= (↑a.i : Int)
 let y57 (a : SuI) := y56 a /\ (↑a.i : Int) < (↑q.r.length : Int)
 let y58 (a : SuI) := (gD (AQ q) a.k).length
 let y59 (a : SuI) (i : Nat) := gD (gD (AQ q) a.k) i
 let y60 (a : SuI) : List Int := AD (y58 a) λ (i : Nat) => y59 a i
 let y61 (a : SuI) := (y60 a).length
 let y62 (a : SuI) := y61 a = y58 a
 let y63 (a : SuI) := ∀ (i : Nat), i < y61 a -> gD (y60 a) i = y59 a i
 let y64 (a : SuI) := y26 /\ y61 a = y1 /\ y27
 let y65 (a : SuI) := y55 a /\ y57 a /\ ((0 : Int) <= (gD q.r a.i).to /\ (gD q.r a.i).to < (↑(y58 a) : Int)) /\ y55 a /\ y57 a /\ ((0 : Int) <= (gD q.r a.i).fr /\ (gD q.r a.i).fr < (↑(y58 a) : Int)) /\ y55 a /\ y2 /\ y4 /\ y7 /\ y10 /\ y62 a /\ y63 a /\ y23 /\ y24 /\ y25 /\ (↑a.i : Int) = (↑a.i : Int) /\ y64 a
 let y66 (a : SuI) (a1 : SuI) := (↑a.i : Int) = (↑a1.i : Int)
 let y67 (a : SuI) (a1 : SuI) := (↑a.k : Int) = IntKind.i64.wrap ((↑a1.k : Int) + (1 : Int))
 let y68 (a : SuI) : Span := PQ (Mp q a.i a.k) (IntKind.i64.wrap (gD (gD (AQ q) a.k) (gD q.r a.i).to.toNat - gD (gD (AQ q) a.k) (gD q.r a.i).fr.toNat)) (KN (PvA.mk y11 (y60 a) y21 (0 : Int) (↑a.i : Int)) y1)
 let y69 (a : SuI) (a1 : SuI) := (Mp q a.i a.k).lo = (y68 a1).lo /\ (Mp q a.i a.k).hi = (y68 a1).hi
 let y70 (a : Nat) (a1 : SuI) := (Ww q (y50 a)).meas a1
 let y71 := (0 : Nat) < (1 : Nat)
 let y72 := (2 : Nat) = (2 : Nat)
 let y73 := (1 : Nat) <= (1 : Nat) /\ (y71 -> y72)
 let y74 := (True /\ ((0 : Nat) < (0 : Nat) -> (0 : Nat) = (2 : Nat))) /\ y73 /\ (true = true -> y71) /\ (1 : Nat) <= (9223372036854775807 : Nat) /\ (16 : Nat) <= (140737488355328 : Nat)
 let y75 (a : Nat) (a1 : SuI) := (↑a : Int) = IntKind.i64.wrap ((↑a1.i : Int) + (1 : Int))
 let y76 (a : Nat) := AC q = (0 : Int) /\ BU q = (0 : Int) /\ a <= q.r.length
 let y77 := (TL q q.r.length).length = (0 : Nat)
 let y78 := y35 /\ y36 /\ y19
 let y79 (a : Nat) := ((Ns q).meas a :: ((Ns q).tag ++ y49)).getD (0 : Nat) (0 : Nat)
 let y80 (a : SuI) (a1 : Nat) := AC q = (0 : Int) /\ BU q = (0 : Int) /\ a.i < q.r.length /\ y48 a = y79 a1 /\ y51 a
 let y81 (a : Nat) (a1 : SuI) := (Wu q (y79 a)).meas a1
 let y82 (a : SuI) := a.i + (1 : Nat)
 let y83 (a : SuI) := (a.i = a.i /\ ((0 : Nat) < a.i -> y72)) /\ y73 /\ (false = true -> y71) /\ y82 a <= (9223372036854775807 : Nat) /\ y82 a * (16 : Nat) <= (140737488355328 : Nat)
 let y84 (a : Nat) (a1 : SuI) := a = y82 a1
 let y85 (i : Nat) (a : SuI) := decide (i < a.i)
 let y86 (a : Nat) := (0 : Nat) + a
 let y87 (a : Nat) := y86 a <= a
 let y88 (j : Nat) := j < (TL q q.r.length).length
 let y89 (j : Nat) : Span := gD (TL q q.r.length) j
 let y90 (j : Nat) := (y89 j).lo
 let y91 (a : Nat) (j : Nat) : Span := gD (TL q a) (y86 j)
 let y92 (j : Nat) := (y89 j).hi
 let y93 := (TL q q.r.length).length = (TL q q.r.length).length
 let y94 := ∀ (i : Nat), y88 i -> y90 i = y90 i /\ y92 i = y92 i
 let y95 := ∃ (a : Nat), (y28 /\ y29 /\ y43 /\ y44 /\ y93 /\ y94 /\ y37 a) /\ y38 a
 let y96 (a : Nat) := (↑a : Int) < (↑q.g.length : Int)
 let y97 (a : Nat) := decide (y96 a)
 let y98 (a : Nat) := y41 a /\ y96 a
 let y99 (a : SuI) (a1 : Nat) := (Ki q a.i a.k).lo = (gD q.g a1).lo /\ (Ki q a.i a.k).hi = (gD q.g a1).hi
 let y100 (a : SuI) (a1 : Nat) := y28 /\ y29 /\ y43 /\ y44 /\ y93 /\ y94 /\ y35 /\ y36 /\ y45 a a1 /\ y46 a /\ y15 /\ y16 /\ y17 /\ y18 /\ y99 a a1
 let y101 (a : SuI) := q.g.length - a.i
 let y102 : List Nat := (Ml q [(204 : Nat)]).tag ++ y49
 let y103 (a : Nat) := ((Cj q).meas a :: ((Cj q).tag ++ y102)).getD (0 : Nat) (0 : Nat)
 let y104 (a : SuI) (a1 : Nat) := (AC q = (0 : Int) /\ BU q = (0 : Int) /\ a.i < q.g.length /\ y101 a = y103 a1 /\ y51 a) /\ a.i = (0 : Nat)
 let y105 (a : SuI) := IntKind.i64.wrap ((↑a.i : Int) + (100 : Int))
 let y106 (a : SuI) := y55 a /\ (y56 a /\ (↑a.i : Int) < (↑(y58 a) : Int)) /\ y55 a /\ y2 /\ y4 /\ y7 /\ y10 /\ y62 a /\ y63 a /\ y23 /\ y24 /\ y25 /\ y105 a = y105 a /\ y64 a
 let y107 (a : SuI) : Span := PQ (Ki q a.i a.k) (gD (gD (AQ q) a.k) a.i) (KN (PvA.mk y11 (y60 a) y21 (0 : Int) (y105 a)) y1)
 let y108 (a : SuI) (a1 : SuI) := (Ki q a.i a.k).lo = (y107 a1).lo /\ (Ki q a.i a.k).hi = (y107 a1).hi
 let y109 (a : SuI) (a1 : SuI) := y28 /\ y29 /\ y43 /\ y44 /\ y93 /\ y94 /\ y35 /\ y36 /\ y66 a a1 /\ y67 a a1 /\ y15 /\ y16 /\ y17 /\ y18 /\ y108 a a1
 let y110 (a : Nat) (a1 : SuI) := (Qt q (y103 a)).meas a1
 let y111 (a : Nat) := AC q = (0 : Int) /\ BU q = (0 : Int) /\ a <= q.g.length
 let y112 (a : SuI) (a1 : Nat) := y74 /\ ∃ (a_1 : Nat), (y28 /\ y29 /\ y43 /\ y44 /\ y93 /\ y94 /\ y35 /\ a_1 = (1 : Nat) /\ y75 a_1 a /\ y15 /\ y16 /\ y17 /\ y18 /\ a_1 = (1 : Nat) /\ ∀ (i : Nat), i < a_1 -> (gD (Am q a_1) i).lo = (Ki q a.i a.k).lo /\ (gD (Am q a_1) i).hi = (Ki q a.i a.k).hi) /\ y111 a_1 /\ (VS q).meas a_1 < (Cj q).meas a1
 let y113 := (QN q).length = (TL q q.r.length).length
 let y114 := ∀ (i : Nat), i < (QN q).length -> (gD (QN q) i).lo = y90 i /\ (gD (QN q) i).hi = y92 i
 let y115 := y113 /\ y114 /\ y14 /\ y14 /\ KP q = (0 : Int)
 let y116 (a : SuI) (a1 : Nat) := y28 /\ y29 /\ y43 /\ y44 /\ y93 /\ y94 /\ y35 /\ a.i = a1 /\ y45 a a1 /\ y46 a /\ y15 /\ y16 /\ y17 /\ y18 /\ a.i = a1 /\ (∀ (i : Nat), i < a.i -> (gD (Am q a.i) i).lo = (gD (Am q a1) i).lo /\ (gD (Am q a.i) i).hi = (gD (Am q a1) i).hi) /\ y99 a a1
 let y117 (a : Nat) := ((VS q).meas a :: ((VS q).tag ++ y102)).getD (0 : Nat) (0 : Nat)
 let y118 (a : SuI) (a1 : Nat) := AC q = (0 : Int) /\ BU q = (0 : Int) /\ a.i < q.g.length /\ y101 a = y117 a1 /\ y51 a
 let y119 (a : SuI) (a1 : SuI) := y28 /\ y29 /\ y43 /\ y44 /\ y93 /\ y94 /\ y35 /\ a.i = a1.i /\ y66 a a1 /\ y67 a a1 /\ y15 /\ y16 /\ y17 /\ y18 /\ a.i = a1.i /\ (∀ (i : Nat), i < a.i -> (gD (Am q a.i) i).lo = (gD (Am q a1.i) i).lo /\ (gD (Am q a.i) i).hi = (gD (Am q a1.i) i).hi) /\ y108 a a1
 let y120 (a : Nat) (a1 : SuI) := (Pj q (y117 a)).meas a1
 let y121 (a : SuI) (a1 : Nat) := y83 a /\ ∃ (a_1 : Nat), (y28 /\ y29 /\ y43 /\ y44 /\ y93 /\ y94 /\ y35 /\ y84 a_1 a /\ y75 a_1 a /\ y15 /\ y16 /\ y17 /\ y18 /\ y84 a_1 a /\ ∀ (i : Nat), i < a_1 -> ((gD (Am q a_1) i).lo = bif y85 i a then (gD (Am q a.i) i).lo else (Ki q a.i a.k).lo) /\ (gD (Am q a_1) i).hi = bif y85 i a then (gD (Am q a.i) i).hi else (Ki q a.i a.k).hi) /\ y111 a_1 /\ (VS q).meas a_1 < (VS q).meas a1
 let y122 (a : Nat) (j : Nat) : Span := gD (Am q a) (y86 j)
 let y123 (a : Nat) := y113 /\ y114 /\ (Et q).length = a /\ y87 a /\ (∀ (j : Nat), j < (Et q).length -> (gD (Et q) j).lo = (y122 a j).lo /\ (gD (Et q) j).hi = (y122 a j).hi) /\ KP q = (0 : Int)
 let y124 : List Nat := (Ml q []).tag ++ y49
 let y125 (a : Nat) := ((Cj q).meas a :: ((Cj q).tag ++ y124)).getD (0 : Nat) (0 : Nat)
 let y126 (a : SuI) (a1 : Nat) := (AC q = (0 : Int) /\ BU q = (0 : Int) /\ a.i < q.g.length /\ y101 a = y125 a1 /\ y51 a) /\ a.i = (0 : Nat)
 let y127 (a : Nat) (a1 : SuI) := (Qt q (y125 a)).meas a1
 let y128 (a : Nat) := ((VS q).meas a :: ((VS q).tag ++ y124)).getD (0 : Nat) (0 : Nat)
 let y129 (a : SuI) (a1 : Nat) := AC q = (0 : Int) /\ BU q = (0 : Int) /\ a.i < q.g.length /\ y101 a = y128 a1 /\ y51 a
 let y130 (a : Nat) (a1 : SuI) := (Pj q (y128 a)).meas a1
 ((y2 /\ y4 /\ y7 /\ y10 /\ y1 <= (1000000 : Nat) /\ y6 <= (1000000 : Nat)) /\ bif y12 != (0 : Int) then y13 /\ y13 /\ y14 /\ y14 /\ KP N =
 y12 else (((0 : Int) <= (↑N.g.length : Int) /\ (↑N.g.length : Int) = (↑N.g.length : Int) /\ (↑N.g.length : Int) <= (9223372036854775807 : Int) /\ (↑(1 : Nat) : Int) * (↑N.g.length : Int) <= (281474976710656 : Int)) /\ ∃ (a
 : One), ((AV N).length = N.g.length /\ (0 : Nat) + N.g.length <= N.g.length /\ (∀ (j : Nat), j < (AV N).length -> gD (AV N) j = false) /\ y19) /\ y20) /\ ∀ (a : One), y20 -> (y2 /\ y4 /\ y7 /\
 y10 /\ y23 /\ y24 /\ y25 /\ y26 /\ y27 /\ (-1 : Int) <= (0 : Int) /\ (0 : Int) <= (1 : Int)) /\ ((∃ (a : Nat), (y28 /\ y29 /\ (AQ N).length = y30.length /\ (∀ (i : Nat), i < (AQ
 N).length -> y31 i = (y32 i).length /\ ∀ (i_1 : Nat), y33 i_1 i -> y34 i i_1 = gD (y32 i) i_1) /\ y35 /\ y36 /\ y37 a) /\ y38 a) /\ (∀ (a : Nat), y38 a -> bif y40 a then y42 a /\ (∃ (a_2 : SuI), (y28 /\ y29 /\ y43 /\ y44 /\ y35 /\ y36 /\ y35 /\ y36 /\ y45 a_2 a /\ y46 a_2 /\ y15 /\ y16 /\ y17 /\ y18 /\ y47 a_2 a) /\ y52 a_2 a) /\ ∀ (a_2 :
 SuI), y52 a_2 a -> bif y54 a_2 then y65 a_2 /\ ∃ (a_4 : SuI), (y28 /\ y29 /\ y43 /\ y44 /\ y35 /\ y36 /\ y35 /\ y36 /\ y66 a_4 a_2 /\ y67 a_4 a_2 /\ y15 /\ y16 /\ y17
 /\ y18 /\ y69 a_4 a_2) /\ y52 a_4 a /\ y70 a a_4 < y70 a a_2 else y74 /\ ∃ (a_4 : Nat), (y28 /\ y29 /\ y43 /\ y44 /\ y35 /\ a_4 = (1 : Nat) /\ y35 /\ y36 /\ y75 a_4 a_2 /\
 y15 /\ y16 /\ y17 /\ y18 /\ a_4 = (1 : Nat) /\ ∀ (i : Nat), i < a_4 -> (gD (TL N a_4) i).lo = (Mp N a_2.i a_2.k).lo /\ (gD (TL N a_4) i).hi = (Mp N a_2.i a_2.k).hi) /\ y76 a_4 /\ (Ns N).meas a_4 <
 (Vz N).meas a else ∃ (a : One), (y28 /\ y29 /\ y43 /\ y44 /\ y77 /\ y77 /\ y78) /\ y20) /\ ∀ (a : Nat), y76 a -> bif y40 a then y42 a /\ (∃ (a_2 : SuI), (y28 /\ y29
 /\ y43 /\ y44 /\ y35 /\ a_2.i = a /\ y35 /\ y36 /\ y45 a_2 a /\ y46 a_2 /\ y15 /\ y16 /\ y17 /\ y18 /\ a_2.i = a /\ (∀ (i : Nat), i < a_2.i -> (gD (TL N a_2.i) i).lo = (gD (TL N a) i).lo /\
 (gD (TL N a_2.i) i).hi = (gD (TL N a) i).hi) /\ y47 a_2 a) /\ y80 a_2 a) /\ ∀ (a_2 : SuI), y80 a_2 a -> bif y54 a_2 then y65 a_2 /\ ∃ (a_4 : SuI), (y28 /\ y29 /\ y43 /\ y44 /\ y35
 /\ a_4.i = a_2.i /\ y35 /\ y36 /\ y66 a_4 a_2 /\ y67 a_4 a_2 /\ y15 /\ y16 /\ y17 /\ y18 /\ a_4.i = a_2.i /\ (∀ (i : Nat), i < a_4.i -> (gD (TL N a_4.i) i).lo = (gD (TL N a_2.i) i).lo /\ (gD (TL N
 a_4.i) i).hi = (gD (TL N a_2.i) i).hi) /\ y69 a_4 a_2) /\ y80 a_4 a /\ y81 a a_4 < y81 a a_2 else y83 a_2 /\ ∃ (a_4 : Nat), (y28 /\ y29 /\ y43 /\ y44 /\ y35 /\ y84 a_4 a_2 /\
 y35 /\ y36 /\ y75 a_4 a_2 /\ y15 /\ y16 /\ y17 /\ y18 /\ y84 a_4 a_2 /\ ∀ (i : Nat), i < a_4 -> ((gD (TL N a_4) i).lo = bif y85 i a_2 then (gD (TL N a_2.i) i).lo else (Mp N a_2.i a_2.k).lo) /\
 (gD (TL N a_4) i).hi = bif y85 i a_2 then (gD (TL N a_2.i) i).hi else (Mp N a_2.i a_2.k).hi) /\ y76 a_4 /\ (Ns N).meas a_4 < (Ns N).meas a else ∃ (a_2 : One), (y28 /\ y29 /\ y43 /\ y44 /\
 (TL N N.r.length).length = a /\ y87 a /\ (∀ (j : Nat), y88 j -> y90 j = (y91 a j).lo /\ y92 j = (y91 a j).hi) /\ y78) /\ y20) /\ (∀ (a : One), y20 -> y95 /\ (∀ (a : Nat), y38 a -> bif y97 a then y98 a /\ (∃ (a_2 : SuI), y100 a_2 a /\ y104 a_2 a) /\ ∀ (a_2 : SuI), y104 a_2 a -> bif y54 a_2 then y106 a_2 /\ ∃ (a_4 : SuI), y109 a_4 a_2 /\ y104 a_4 a /\
 y110 a a_4 < y110 a a_2 else y112 a_2 a else y115) /\ ∀ (a : Nat), y111 a -> bif y97 a then y98 a /\ (∃ (a_2 : SuI), y116 a_2 a /\ y118 a_2 a) /\ ∀ (a_2 : SuI), y118 a_2 a ->
 bif y54 a_2 then y106 a_2 /\ ∃ (a_4 : SuI), y119 a_4 a_2 /\ y118 a_4 a /\ y120 a a_4 < y120 a a_2 else y121 a_2 a else y123 a) /\ ∀ (a : One), y20 -> y95 /\ (∀ (a : Nat),
 y38 a -> bif y97 a then y98 a /\ (∃ (a_2 : SuI), y100 a_2 a /\ y126 a_2 a) /\ ∀ (a_2 : SuI), y126 a_2 a -> bif y54 a_2 then y106 a_2 /\ ∃ (a_4 : SuI), y109 a_4 a_2 /\ y126 a_4 a
 /\ y127 a a_4 < y127 a a_2 else y112 a_2 a else y115) /\ ∀ (a : Nat), y111 a -> bif y97 a then y98 a /\ (∃ (a_2 : SuI), y116 a_2 a /\ y129 a_2 a) /\ ∀ (a_2 : SuI), y129 a_2 a ->
 bif y54 a_2 then y106 a_2 /\ ∃ (a_4 : SuI), y119 a_4 a_2 /\ y129 a_4 a /\ y130 a a_4 < y130 a a_2 else y121 a_2 a else y123 a)) := by kernel_rfl
theorem Ap (N : NetL) (n : Nat) : (TL N n).length = n := by simp [TL]
theorem Iw (N : NetL) (n : Nat) : (Am N n).length = n := by simp [Am]
theorem Hv {N : NetL} {n i : Nat} (h : i < n) : gD (TL N n) i = Mp N i (AQ N).length := BZ (λ i => Mp N i (AQ N).length) h
theorem In {N : NetL} {n i : Nat} (h : i < n) : gD (Am N n) i = Ki N i (AQ N).length := BZ (λ i => Ki N i (AQ N).length) h
theorem Wt {N : NetL} {a i : Nat} (h : i < a + 1) : gD (TL N (a + 1)) i = if i < a then gD (TL N a) i else Mp N a (AQ N).length := by
 rw [Hv h]
 by_cases hi : i < a
 ·rw [if_pos hi, Hv hi]
 ·rw [if_neg hi, show i = a by omega]
theorem Xh {N : NetL} {a i : Nat} (h : i < a + 1) : gD (Am N (a + 1)) i = if i < a then gD (Am N a) i else Ki N a (AQ N).length := by
 rw [In h]
 by_cases hi : i < a
 ·rw [if_pos hi, In hi]
 ·rw [if_neg hi, show i = a by omega]
theorem Xr {b : Bool} {p : Prop} [Decidable p] (x y : Span) : (if p then x else y).lo = (bif decide p then x.lo else y.lo) /\ (if p then x else y).hi = (bif decide p then x.hi else y.hi) := by
 by_cases h : p <;> simp [h]
theorem Hd {N : NetL} (h : KP N = 0) : AC N = 0 /\ BU N = 0 := by
 rw [VV, OP] at h
 exact ⟨h.1, by rw [SP h.1]; exact h.2⟩
theorem p36 (N : NetL) (h1 : N.g.length <= 1000000 /\ N.r.length <= 1000000) : V36 N := by
 have et : NetL.mk N.g N.r = N := rfl
 have nl : (AV N).length = N.g.length := by simp [AV]
 have ea : AR (LvA.mk N (AV N) 0) N.g.length = AQ N := rfl
 rw [vc36]; (conv => zeta); simp only [CC, eq_self, implies_true, forall_const, et, ea, spI, Vz, Ns, Ww, Wu, Cj, VS, Qt, Pj, Ml, List.cons_append, List.nil_append, List.append_nil, List.getD_cons_zero, List.getD_cons_succ]
 refine ⟨h1, λ hf => ?err, λ hf => ?ok⟩
 case err =>
  have hf : KP N ≠ 0 := by simpa using hf
  have e1 : QN N = [] := if_neg hf
  have e2 : Et N = [] := if_neg hf
  rw [e1, e2]; exact ⟨rfl, rfl, rfl⟩
 case ok =>
  have hf : KP N = 0 := by simpa using hf
  obtain ⟨hc, hl⟩ := Hd hf
  have hg := AS hc
  have hg8 := hg.g8
  have hr14 := hg.r14
  have hb : (AQ N).length <= 6561 := QX (Hy N) hg8
  have lk : ∀ k, k < (AQ N).length -> (gD (AQ N) k).length = N.g.length := λ k hk => NP (Hy N) (s := N.g.length) (k := k) hk
  have rF : QN N = TL N N.r.length := if_pos hf
  have rG : Et N = Am N N.g.length := if_pos hf
  have fl := Ap N
  have gl := Iw N
  refine ⟨⟨⟨by omega, by omega, by omega⟩, ⟨0⟩, ⟨nl, Nat.le_refl _, λ j hj => ?n0⟩, hc, hl⟩, λ _ => ⟨⟨rfl, hc, nl, by decide, by decide⟩, ⟨⟨0, rfl, hc, hl, rfl⟩, λ a ⟨_, _, ha⟩ => ⟨λ hlt => ⟨⟨by omega, by omega⟩, ⟨⟨a, 0⟩, ⟨rfl, rfl, rfl, rfl⟩, ⟨hc, hl, (by simp only; omega), rfl, Nat.zero_le _⟩, ha⟩, λ x ⟨⟨_, _, x1, x2, x3⟩, x4⟩ => ⟨λ hk => ?fns, λ hk => ?fne⟩⟩, λ hge => ?fnx⟩, λ a ⟨_, _, ha⟩ => ⟨λ hlt => ⟨⟨by omega, by omega⟩, ⟨⟨a, 0⟩, ⟨rfl, rfl, rfl, rfl, λ _ _ => ⟨rfl, rfl⟩, rfl, rfl⟩, hc, hl, (by simp only; omega), rfl, Nat.zero_le _⟩, λ x ⟨_, _, x1, x2, x3⟩ => ⟨λ hk => ?fos, λ hk => ?foe⟩⟩, λ hge => ?fox⟩⟩, λ _ => ?ph⟩⟩
  case n0 => rw [nl] at hj; simp [AV, CM, hj]
  case fns =>
   obtain ⟨_, b1, b2, _⟩ := hg.r x.i x1
   exact ⟨⟨⟨by omega, hk⟩, ⟨by omega, by omega⟩, ⟨by omega, by rw [lk x.k (by omega)]; omega⟩, ⟨by omega, hk⟩, ⟨by omega, by omega⟩, ⟨by omega, by rw [lk x.k (by omega)]; omega⟩, ⟨by omega, hk⟩, rfl, hc, lk x.k (by omega), nl⟩, ⟨x.i, x.k + 1⟩, ⟨rfl, (AN (by omega)).symm, rfl, rfl⟩, ⟨⟨hc, hl, x1, x2, by simp only; omega⟩, x4⟩, by simp only; omega⟩
  case fne =>
   obtain ⟨xi, xk⟩ := x
   simp only at x1 x2 x3 x4 hk ⊢
   have hx : xk = (AQ N).length := by omega
   subst hx x4
   refine ⟨⟨λ h => absurd h (by decide), by decide, by decide, by decide, by decide⟩, 1, ⟨rfl, rfl, rfl, λ i hi => ?_⟩, ⟨hc, hl, by omega⟩, by omega⟩
   have : i = 0 := by omega
   subst this; exact ⟨rfl, rfl⟩
  case fnx => exact ⟨⟨0⟩, by rw [fl]; omega, hc, hl⟩
  case fos =>
   obtain ⟨_, b1, b2, _⟩ := hg.r x.i x1
   exact ⟨⟨⟨by omega, hk⟩, ⟨by omega, by omega⟩, ⟨by omega, by rw [lk x.k (by omega)]; omega⟩, ⟨by omega, hk⟩, ⟨by omega, by omega⟩, ⟨by omega, by rw [lk x.k (by omega)]; omega⟩, ⟨by omega, hk⟩, rfl, hc, lk x.k (by omega), nl⟩, ⟨x.i, x.k + 1⟩, ⟨rfl, rfl, (AN (by omega)).symm, rfl, λ _ _ => ⟨rfl, rfl⟩, rfl, rfl⟩, ⟨hc, hl, x1, x2, by simp only; omega⟩, by simp only; omega⟩
  case foe =>
   obtain ⟨xi, xk⟩ := x
   simp only at x1 x2 x3 hk ⊢
   have hx : xk = (AQ N).length := by omega
   subst hx
   refine ⟨⟨by decide, λ h => absurd h (by decide), by omega, by omega⟩, xi + 1, ⟨rfl, (AN (by omega)).symm, rfl, λ i hi => ?_⟩, ⟨hc, hl, by omega⟩, by omega⟩
   rw [Wt hi]; exact Xr (b := true) _ _
  case fox =>
   have hx : a = N.r.length := by omega
   subst hx
   exact ⟨⟨0⟩, ⟨fl _, Nat.le_refl _, λ _ _ => ⟨rfl, rfl⟩⟩, hc, hl⟩
  case ph =>
   refine ⟨⟨0, rfl, hc, hl, rfl⟩, λ a ⟨_, _, ha⟩ => ⟨λ hlt => ⟨⟨by omega, by omega⟩, ⟨⟨a, 0⟩, ⟨rfl, rfl, rfl, rfl⟩, ⟨hc, hl, (by simp only; omega), rfl, Nat.zero_le _⟩, ha⟩, λ x ⟨⟨_, _, x1, x2, x3⟩, x4⟩ => ⟨λ hk => ?fns, λ hk => ?fne⟩⟩, λ hge => ?fnx⟩, λ a ⟨_, _, ha⟩ => ⟨λ hlt => ⟨⟨by omega, by omega⟩, ⟨⟨a, 0⟩, ⟨rfl, rfl, rfl, rfl, λ _ _ => ⟨rfl, rfl⟩, rfl, rfl⟩, hc, hl, (by simp only; omega), rfl, Nat.zero_le _⟩, λ x ⟨_, _, x1, x2, x3⟩ => ⟨λ hk => ?fos, λ hk => ?foe⟩⟩, λ hge => ?fox⟩⟩
   case fns =>
    exact ⟨⟨⟨by omega, hk⟩, ⟨by omega, by rw [lk x.k (by omega)]; omega⟩, ⟨by omega, hk⟩, rfl, hc, lk x.k (by omega), nl⟩, ⟨x.i, x.k + 1⟩, ⟨rfl, (AN (by omega)).symm, rfl, rfl⟩, ⟨⟨hc, hl, x1, x2, by simp only; omega⟩, x4⟩, by simp only; omega⟩
   case fne =>
    obtain ⟨xi, xk⟩ := x
    simp only at x1 x2 x3 x4 hk ⊢
    have hx : xk = (AQ N).length := by omega
    subst hx x4
    refine ⟨⟨λ h => absurd h (by decide), by decide, by decide, by decide, by decide⟩, 1, ⟨rfl, rfl, rfl, λ i hi => ?_⟩, ⟨hc, hl, by omega⟩, by omega⟩
    have : i = 0 := by omega
    subst this; exact ⟨rfl, rfl⟩
   case fnx =>
    rw [rF, rG]
    exact ⟨rfl, λ _ _ => ⟨rfl, rfl⟩, by rw [gl]; omega, by rw [gl]; omega, hf⟩
   case fos =>
    exact ⟨⟨⟨by omega, hk⟩, ⟨by omega, by rw [lk x.k (by omega)]; omega⟩, ⟨by omega, hk⟩, rfl, hc, lk x.k (by omega), nl⟩, ⟨x.i, x.k + 1⟩, ⟨rfl, rfl, (AN (by omega)).symm, rfl, λ _ _ => ⟨rfl, rfl⟩, rfl, rfl⟩, ⟨hc, hl, x1, x2, by simp only; omega⟩, by simp only; omega⟩
   case foe =>
    obtain ⟨xi, xk⟩ := x
    simp only at x1 x2 x3 hk ⊢
    have hx : xk = (AQ N).length := by omega
    subst hx
    refine ⟨⟨by decide, λ h => absurd h (by decide), by omega, by omega⟩, xi + 1, ⟨rfl, (AN (by omega)).symm, rfl, λ i hi => ?_⟩, ⟨hc, hl, by omega⟩, by omega⟩
    rw [Xh hi]; exact Xr (b := true) _ _
   case fox =>
    have hx : a = N.g.length := by omega
    subst hx
    rw [rF, rG]
    exact ⟨rfl, λ _ _ => ⟨rfl, rfl⟩, gl _, Nat.le_refl _, λ _ _ => ⟨rfl, rfl⟩, hf⟩
theorem ok36 : AI Try.prog 36 (C36.spec dN) := HQ C36 A36 [] [204] Try.func36 (λ _ => by kernel_rfl) (λ _ => AA ok76 (AA Yw (AA Wv (AA ok71 AF)))) (λ a h => p36 a h) (λ _ => IL rfl rfl) _
end Go.Bal
