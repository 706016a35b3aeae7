/- Package balance: Suspects. -/
import Derived.Test.YtonddbmhljelgaaBalQ
set_option linter.unusedVariables false
set_option linter.unusedSimpArgs false
namespace Go.Bal
open Go Go.Sym Go.Proofs
def A69 : Ann := { ann 8 [] with mt := λ id => id == 3 }
def C69 : Ctr := { α := List Reach, xs := λ l => [.d (BS l)], L := λ _ => [], val := λ l => .own 0 4 0 l.length, keep := λ l => [(0, .live (.row 4 l.length λ i => LG (gD l i)))], pre := λ l => [0 < l.length /\ l.length <= 1000] }
def d69 : List AVal -> Heap -> Option (List Reach × List (Nat × Nat) × List Nat)
 | [.d (.list _ n g _)], _ => some (AC n λ i => ET (g i), [], [])
 | _, _ => none
def V69 (l : List Reach) : Prop := BM Try.prog A69 Try.f69 (AJ Try.f69) (C69.xs l) (AE []) (C69.val l) (C69.keep l) [(0, 4032)] []
theorem vc69 (l : List Reach) : (V69 l) = ((Nat.succ 0).le l.length /\ ((0 = 0 /\ (0 < 0 -> 4 = 4)) /\ (True /\ (0 < l.length -> 4 = 4)) /\ (false = true -> 0 < l.length) /\ 0 + l.length <= 9223372036854775807 /\ (0 + l.length) *
 32 <= 140737488355328) /\ 0 = 0 /\ l.length = 0 + l.length /\ l.length = 0 + l.length /\ ∀ (i : Nat), i < l.length -> (gD l i).fr = (gD l (i - 0)).fr /\ (gD l i).to = (gD l (i - 0)).to /\ (gD l i).sp.lo = (gD l (i - 0)).sp.lo /\
 (gD l i).sp.hi = (gD l (i - 0)).sp.hi) := by kernel_rfl
theorem p69 (l : List Reach) (h : 0 < l.length /\ l.length <= 1000) : V69 l := by
 rw [vc69]; simp only [CC, eq_self, implies_true, forall_const]
 exact ⟨h.1, ⟨λ _ => h.1, by omega, by omega⟩, λ _ _ => ⟨rfl, rfl, rfl, rfl⟩⟩
theorem ok69 : AL Try.prog 69 (C69.spec d69) := JC C69 (λ _ => A69) [(0, 4032)] [] Try.func69 (λ _ => by kernel_rfl) (λ _ => AH) (λ a h => p69 a h) (λ _ => KF rfl rfl) _
def wide : Span := ⟨-100000000, 100000000⟩
def CS (N : NetL) (i : Nat) : Desk := ⟨(AQ N).all.modify i λ w => { w with sp := wide }, (AQ N).out, (AQ N).nR⟩
def PS (N : NetL) (i : Nat) : NetL := ⟨N.g, N.r.modify i λ r => { r with sp := wide }⟩
def MQ (N : NetL) (i : Nat) : Desk := (BY (CS N i)).getD default
def Hi (N : NetL) (i : Nat) : Bool := decide (IJ (PS N i) (AP (MQ N i)) = 0)
def BD (N : NetL) (k : Nat) : List Int := ((List.range k).filter λ i => Hi N i).map λ (i : Nat) => (i : Int)
def suC (N : NetL) (k : Nat) : List (Nat × HCell) := [(200, MW N), (301, .live (TY (CS N k) 302)), (302, .live (UE (CS N k)))]
def suS (N : NetL) (k : Nat) (v : AVal) : List (Nat × AVal) := [(1, .bptr 200 0), (6, v), (7, .int k), (8, .bptr 301 0), (24, .int N.r.length), (25, .int k)]
def A25 (N : NetL) : Ann := { ann 72 [(19, C19.spec XP), (67, C67.spec XP), (68, C68.spec OP), (56, C56.spec OP), (69, C69.spec d69), (70, C70.spec d70)] with mt := λ id => id == 18, cutIn := λ gs id => if id = 12 then some [{ α := Nat, dflt := 0, T := λ k => ⟨suS N k (.d HX), suC N k⟩, inv := λ k => k < N.r.length /\ BD N k = [] /\ N.r.length - k = gs.headD 0, meas := λ _ => 0, first := [(301, 11016), (302, 11017)] }, { α := Nat, dflt := 0, T := λ k => ⟨suS N k (.own 202 1 0 (BD N k).length), suC N k ++ [(202, UB (BD N k).length (BD N k))]⟩, inv := λ k => k < N.r.length /\ N.r.length - k = gs.headD 0, meas := λ _ => 0, first := [(301, 11016), (302, 11017)] }] else none, loops := λ id => if id = 8 then some [{ α := Nat, dflt := 0, T := λ k => ⟨[(1, .bptr 200 0), (6, .d HX), (24, .int N.r.length), (25, .int k)], [(200, MW N)]⟩, inv := λ k => k <= N.r.length /\ BD N k = [], meas := λ k => N.r.length - k, first := [(200, 1000)] }, { α := Nat, dflt := 0, T := λ k => ⟨[(1, .bptr 200 0), (6, .own 202 1 0 (BD N k).length), (24, .int N.r.length), (25, .int k)], [(200, MW N), (202, UB (BD N k).length (BD N k))]⟩, inv := λ k => k <= N.r.length, meas := λ k => N.r.length - k, again := [(202, 19048)] }, { α := Nat, dflt := 0, T := λ k => ⟨[(1, .bptr 200 0), (6, .own 202 1 0 (BD N k).length), (24, .int N.r.length), (25, .int k)], [(200, MW N), (202, UB (BD N k).length (BD N k))]⟩, inv := λ k => k <= N.r.length, meas := λ k => N.r.length - k}] else none }
def C25 : Ctr := { α := NetL, xs := λ N => [.d (EZ N)], L := λ _ => [], val := λ N => .tup [.d (CV (BD N N.r.length)), .int 0], keep := λ _ => [], pre := λ N => [AD N = 0, (AT N).isSome = true, CJ N ≠ 0, ∀ i, i < N.r.length -> (BY (CS N i)).isSome = true] }
def V25 (N : NetL) : Prop := BM Try.prog (A25 N) Try.f25 (AJ Try.f25) (C25.xs N) (AE []) (C25.val N) (C25.keep N) [] [202]
theorem vc25 (N : NetL) : (V25 N) = (let q := N
 let y0 : List Span := AC q.g.length λ (i : Nat) => gD q.g i
 let y1 := y0.length
 let y2 := y1 = q.g.length
 let y3 (i : Nat) : Span := gD y0 i
 let y4 := ∀ (i : Nat), i < y1 -> (y3 i).lo = (gD q.g i).lo /\ (y3 i).hi = (gD q.g i).hi
 let y5 : List Reach := AC q.r.length λ (i : Nat) => gD q.r i
 let y6 := y5.length
 let y7 := y6 = q.r.length
 let y8 (i : Nat) : Reach := gD y5 i
 let y9 (i : Nat) := (y8 i).fr
 let y10 (i : Nat) := (y8 i).to
 let y11 (i : Nat) : Span := (y8 i).sp
 let y12 (i : Nat) := (y11 i).lo
 let y13 (i : Nat) := (y11 i).hi
 let y14 := ∀ (i : Nat), i < y6 -> y9 i = (gD q.r i).fr /\ y10 i = (gD q.r i).to /\ y12 i = (gD q.r i).sp.lo /\ y13 i = (gD q.r i).sp.hi
 let y15 : NetL := NetL.mk y0 y5
 let y16 := (BD q q.r.length).length = (0 : Nat)
 let y17 := (0 : Nat) = (0 : Nat)
 let y18 := ∀ (i : Nat), i < (0 : Nat) -> false = false
 let y19 := (↑q.r.length : Int) = (↑q.r.length : Int)
 let y20 := q.g.length = q.g.length
 let y21 := ∀ (i : Nat), i < q.g.length -> (gD q.g i).lo = (gD q.g i).lo /\ (gD q.g i).hi = (gD q.g i).hi
 let y22 := q.r.length = q.r.length
 let y23 := ∀ (i : Nat), i < q.r.length -> (gD q.r i).fr = (gD q.r i).fr /\ (gD q.r i).to = (gD q.r i).to /\ (gD q.r i).sp.lo = (gD q.r i).sp.lo /\ (gD q.r i).sp.hi = (gD q.r i).sp.hi
 let y24 := y20 /\ y21 /\ y22 /\ y23
 let y25 (a : Nat) := a <= q.r.length /\ BD q a = []
 let y26 (a : Nat) := decide ((↑a : Int) < (↑q.r.length : Int))
 let y27 := (1 : Nat) <= y1 /\ y1 <= (1000 : Nat)
 let y28 := y2 /\ y4 /\ y7 /\ y14 /\ y27 /\ y6.le (1000 : Nat)
 let y29 (a : Nat) := (0 : Int) <= (↑a : Int)
 let y30 : Desk := AQ y15
 let y31 : List Way := y30.all
 let y32 := y31.length
 let y33 (a : Nat) := (0 : Nat) + a
 let y34 (a : Nat) := (y33 a).succ
 let y35 (a : Nat) := (y29 a /\ (↑a : Int) < (↑y32 : Int)) /\ (y34 a).le y32
 let y36 (a : Nat) (a1 : Nat) := (↑a : Int) = (↑a1 : Int)
 let y37 (a : Nat) := (CS q a).all.length = y32
 let y38 (a : Nat) := (↑(CS q a).out : Int) = (↑y30.out : Int)
 let y39 (a : Nat) := (↑(CS q a).nR : Int) = (↑y30.nR : Int)
 let y40 (i : Nat) (a : Nat) := i = y33 a
 let y41 (i : Nat) (a : Nat) := decide (y40 i a)
 let y42 (a : Nat) : Way := gD y31 (y33 a)
 let y43 (i : Nat) : Way := gD y31 i
 let y44 (a : Nat) (i : Nat) := (gD (CS q a).all i).sp.lo
 let y45 (i : Nat) : Span := (y43 i).sp
 let y46 (a : Nat) (i : Nat) := (gD (CS q a).all i).sp.hi
 let y47 (a : Nat) (a1 : Nat) := ∀ (i : Nat), i < (CS q a).all.length -> ((gD (CS q a).all i).fr = bif y41 i a1 then (y42 a1).fr else (y43 i).fr) /\ ((gD (CS q a).all i).to = bif y41 i a1 then (y42 a1).to else (y43 i).to) /\ (y44 a i = bif y41 i a1 then (-100000000 : Int) else (y45 i).lo) /\ (y46 a i = bif y41 i a1 then (100000000 : Int) else (y45 i).hi) /\ (gD (CS q a).all i).now = bif y41 i a1 then (y42 a1).now else (y43 i).now
 let y48 (a : Nat) := q.r.length - a
 let y49 (a : Nat) (a1 : Nat) := y48 a = [y48 a1].headD (0 : Nat)
 let y50 (a : Nat) (a1 : Nat) := a < q.r.length /\ BD q a = [] /\ y49 a a1
 let y51 (a : Nat) : List Way := AC (CS q a).all.length λ (i : Nat) => gD (CS q a).all i
 let y52 (a : Nat) := (y51 a).length
 let y53 (a : Nat) := y52 a = (CS q a).all.length
 let y54 (a : Nat) (i : Nat) : Way := gD (y51 a) i
 let y55 (a : Nat) (i : Nat) : Span := (y54 a i).sp
 let y56 (a : Nat) : Desk := Desk.mk (y51 a) (CS q a).out (CS q a).nR
 let y57 (a : Nat) : Option Desk := BY (y56 a)
 let y58 (a : Nat) := y17 /\ y53 a /\ (↑(CS q a).out : Int) = (↑(CS q a).out : Int) /\ (↑(CS q a).nR : Int) = (↑(CS q a).nR : Int) /\ y53 a /\ (∀ (i : Nat), i < y52 a -> (y54 a i).fr = (gD (CS q a).all i).fr /\ (y54 a i).to = (gD (CS q a).all i).to /\ (y55 a i).lo = y44 a i /\ (y55 a i).hi = y46 a i /\ (y54 a i).now = (gD (CS q a).all i).now) /\ (y56 a).ok /\ (y57 a).isSome = true
 let y59 (a : Nat) : Desk := (y57 a).getD default
 let y60 (a : Nat) : List Way := (y59 a).all
 let y61 (a : Nat) := (y60 a).length
 let y62 (a : Nat) (i : Nat) : Way := gD (y60 a) i
 let y63 (a : Nat) : List Way := AC (y61 a) λ (i : Nat) => y62 a i
 let y64 (a : Nat) := (y63 a).length
 let y65 (a : Nat) := y64 a = y61 a
 let y66 (a : Nat) := (y59 a).out
 let y67 (a : Nat) := (↑(y66 a) : Int) = (↑(y66 a) : Int)
 let y68 (a : Nat) := (y59 a).nR
 let y69 (a : Nat) := (↑(y68 a) : Int) = (↑(y68 a) : Int)
 let y70 (a : Nat) (i : Nat) : Way := gD (y63 a) i
 let y71 (a : Nat) (i : Nat) := (y70 a i).fr
 let y72 (a : Nat) (i : Nat) := (y62 a i).fr
 let y73 (a : Nat) (i : Nat) := (y70 a i).to
 let y74 (a : Nat) (i : Nat) := (y62 a i).to
 let y75 (a : Nat) (i : Nat) : Span := (y70 a i).sp
 let y76 (a : Nat) (i : Nat) := (y75 a i).lo
 let y77 (a : Nat) (i : Nat) : Span := (y62 a i).sp
 let y78 (a : Nat) (i : Nat) := (y77 a i).lo
 let y79 (a : Nat) (i : Nat) := (y75 a i).hi
 let y80 (a : Nat) (i : Nat) := (y77 a i).hi
 let y81 (a : Nat) (i : Nat) := (y70 a i).now
 let y82 (a : Nat) (i : Nat) := (y62 a i).now
 let y83 (a : Nat) := y61 a = y64 a
 let y84 (a : Nat) := y17 /\ y65 a /\ y67 a /\ y69 a /\ y65 a /\ (∀ (i : Nat), i < y64 a -> y71 a i = y72 a i /\ y73 a i = y74 a i /\ y76 a i = y78 a i /\ y79 a i = y80 a i /\ y81 a i = y82 a i) /\ y17 /\ y83 a /\ y67 a /\ y69 a /\ y83 a /\ (∀ (i : Nat), i < y61 a -> y72 a i = y71 a i /\ y74 a i = y73 a i /\ y78 a i = y76 a i /\ y80 a i = y79 a i /\ y82 a i = y81 a i) /\ ((1 : Nat) <= y66 a /\ y64 a <= (1000 : Nat)) /\ (y68 a + y66 a).le (y64 a)
 let y85 := y7 /\ y14 /\ (0 : Nat) < y6 /\ y6 <= (1000 : Nat)
 let y86 (a : Nat) := (y29 a /\ (↑a : Int) < (↑(y61 a) : Int)) /\ y33 a < y61 a /\ (y29 a /\ (↑a : Int) < (↑y6 : Int)) /\ (y34 a).le y6
 let y87 (a : Nat) : Reach := gD y5 (y33 a)
 let y88 (a : Nat) := (y87 a).fr
 let y89 (a : Nat) := (y87 a).to
 let y90 (a : Nat) : Span := (gD (y60 a) (y33 a)).sp
 let y91 (a : Nat) := (y90 a).lo
 let y92 (a : Nat) := (y90 a).hi
 let y93 (a : Nat) : List Reach := AC y6 λ (i : Nat) => Reach.mk (bif y41 i a then y88 a else y9 i) (bif y41 i a then y89 a else y10 i) (Span.mk (bif y41 i a then y91 a else y12 i) (bif y41 i a then y92 a else y13 i))
 let y94 (a : Nat) := (y93 a).length
 let y95 (i : Nat) (a : Nat) := decide (y40 i a)
 let y96 (a : Nat) := (AC y6 λ (i : Nat) => Reach.mk (bif y95 i a then y88 a else y9 i) (bif y95 i a then y89 a else y10 i) (Span.mk (bif y95 i a then y91 a else y12 i) (bif y95 i a then y92 a else y13 i))).length
 let y97 (a : Nat) (j : Nat) : Reach := gD (y93 a) j
 let y98 (j : Nat) (a : Nat) := decide (y33 j = y33 a)
 let y99 (a : Nat) (j : Nat) : Span := (y97 a j).sp
 let y100 (j : Nat) : Span := (y87 j).sp
 let y101 (a : Nat) : TruthL := AP (Desk.mk (y63 a) (y66 a) (y68 a))
 let y102 (a : Nat) : List Int := (y101 a).f
 let y103 (a : Nat) : List Int := AC (y68 a) λ (i : Nat) => gD (y102 a) i
 let y104 (a : Nat) := (y103 a).length
 let y105 (a : Nat) : List Int := (y101 a).t
 let y106 (a : Nat) : List Int := AC (y66 a) λ (i : Nat) => gD (y105 a) i
 let y107 (a : Nat) := (y106 a).length
 let y108 (a : Nat) := y2 /\ y4 /\ y94 a = y6 /\ (0 : Nat) + y6 <= y6 /\ (∀ (j : Nat), j < y96 a -> ((y97 a j).fr = bif y98 j a then y88 a else y88 j) /\ ((y97 a j).to = bif y98 j a then y89 a else y89 j) /\ ((y99 a j).lo = bif y98 j a then y91 a else (y100 j).lo) /\ (y99 a j).hi = bif y98 j a then y92 a else (y100 j).hi) /\ y104 a = y68 a /\ (0 : Nat) + y68 a <= y68 a /\ (∀ (j : Nat), j < y104 a -> gD (y103 a) j = gD (y102 a) (y33 j)) /\ y107 a = y66 a /\ (0 : Nat) + y66 a <= y66 a /\ (∀ (j : Nat), j < y107 a -> gD (y106 a) j = gD (y105 a) (y33 j)) /\ y27 /\ y96 a <= (1000 : Nat) /\ y104 a = y94 a /\ y107 a = y1
 let y109 (a : Nat) := IJ (NetL.mk y0 (y93 a)) (TruthL.mk (y103 a) (y106 a)) == (0 : Int)
 let y110 := (0 : Nat) < (1 : Nat)
 let y111 := (1 : Nat) = (1 : Nat)
 let y112 := (1 : Nat) <= (1 : Nat) /\ (y110 -> y111)
 let y113 (a : Nat) := (BD q a).length = (1 : Nat)
 let y114 (a : Nat) (a1 : Nat) := (↑a : Int) = IntKind.i64.wrap ((↑a1 : Int) + (1 : Int))
 let y115 (a : Nat) (a1 : Nat) := y48 a < y48 a1
 let y116 (a : Nat) (a1 : Nat) := a.le q.r.length /\ y115 a a1
 let y117 (a : Nat) (a1 : Nat) := a < q.r.length /\ y49 a a1
 let y118 (a : Nat) := (BD q a).length + (1 : Nat)
 let y119 (a : Nat) (a1 : Nat) := (BD q a).length = y118 a1
 let y120 (a : Nat) (a1 : Nat) := (BD q a).length = (BD q a1).length
 let y121 (a : Nat) (a1 : Nat) := y120 a a1 /\ ∀ (i : Nat), i < (BD q a).length -> gD (BD q a) i = gD (BD q a1) i
 let y122 (a : Nat) := (∀ (a_1 : Nat), y50 a_1 a -> y58 a_1 /\ y84 a_1 /\ y85 /\ y86 a_1 /\ y108 a_1 /\ bif y109 a_1 then ((True /\ ((0 : Nat) < (0 : Nat) -> (0 : Nat) = (1 : Nat))) /\ y112 /\ (true = true -> y110) /\ (1 : Nat) <= (9223372036854775807 : Nat) /\ (8 : Nat) <= (140737488355328 : Nat)) /\ ∃ (a_3 : Nat), (y17 /\ y113 a_3 /\ y19 /\ y114 a_3 a_1 /\ y20 /\ y21 /\ y22 /\ y23 /\ y113 a_3 /\ ∀ (i : Nat), i < (BD q a_3).length -> gD (BD q a_3) i = (↑a_1 : Int)) /\ y116 a_3 a else ∃ (a_3 : Nat), (y17 /\ y18 /\ y19 /\ y114 a_3 a_1 /\ y24) /\ y25 a_3 /\ y115 a_3 a) /\ ∀ (a_1 : Nat), y117 a_1 a -> y58 a_1 /\ y84 a_1 /\ y85 /\ y86 a_1 /\ y108 a_1 /\ bif y109 a_1 then (((BD q a_1).length = (BD q a_1).length /\ ((0 : Nat) < (BD q a_1).length -> y111)) /\ y112 /\ (false = true -> y110) /\ y118 a_1 <= (9223372036854775807 : Nat) /\ y118 a_1 * (8 : Nat) <= (140737488355328 : Nat)) /\ ∃ (a_3 : Nat), (y17 /\ y119 a_3 a_1 /\ y19 /\ y114 a_3 a_1 /\ y20 /\ y21 /\ y22 /\ y23 /\ y119 a_3 a_1 /\ ∀ (i : Nat), i < (BD q a_3).length -> gD (BD q a_3) i = bif decide (i < (BD q a_1).length) then gD (BD q a_1) i else (↑a_1 : Int)) /\ y116 a_3 a else ∃ (a_3 : Nat), (y17 /\ y120 a_3 a_1 /\ y19 /\ y114 a_3 a_1 /\ y20 /\ y21 /\ y22 /\ y23 /\ y121 a_3 a_1) /\ y116 a_3 a
 let y123 := Int.ofNat (0 : Nat) = Int.ofNat (0 : Nat)
 let y124 := ∀ (a : Nat), a.le q.r.length -> bif y26 a then y28 /\ (y35 a /\ ∃ (a_2 : Nat), (y17 /\ y120 a_2 a /\ y36 a_2 a /\ y19 /\ y36 a_2 a /\ y20 /\ y21 /\ y22 /\ y23 /\ y17 /\ y37 a_2 /\ y38 a_2 /\ y39 a_2 /\ y37 a_2 /\ y47 a_2 a /\ y121 a_2 a) /\ y117 a_2 a) /\ y122 a else (BD q q.r.length).length = (BD q a).length /\ (0 : Nat) + (BD q a).length <= (BD q a).length /\ (∀ (j : Nat), j < (BD q q.r.length).length -> gD (BD q q.r.length) j = gD (BD q a) (y33 j)) /\ y123
 ((y2 /\ y4 /\ y7 /\ y14 /\ AD y15 = (0 : Int) /\ (AT y15).isSome = true) /\ bif decide (CJ y15 = (0 : Int)) then y16 /\ y16 /\
 Int.ofNat (0 : Nat) = Int.ofNat (8 : Nat) else (∃ (a : Nat), (y17 /\ y18 /\ y19 /\ (↑a : Int) = (0 : Int) /\ y24) /\ y25 a) /\ (∀ (a : Nat), y25 a -> bif y26 a then y28 /\ (y35 a /\ ∃ (a_2
 : Nat), (y17 /\ y18 /\ y36 a_2 a /\ y19 /\ y36 a_2 a /\ y20 /\ y21 /\ y22 /\ y23 /\ y17 /\ y37 a_2 /\ y38 a_2 /\ y39 a_2 /\ y37 a_2 /\ y47 a_2 a) /\ y50 a_2 a) /\
 y122 a else y16 /\ y16 /\ y123) /\ y124 /\ y124)) := by kernel_rfl
theorem Gz {d d' : Desk} {fr to most q : Int} {m : Map} (h : JT d fr to m most = some (d', q)) (i : Nat) : (gD d'.all i).fr = (gD d.all i).fr /\ (gD d'.all i).to = (gD d.all i).to /\ (gD d'.all i).sp = (gD d.all i).sp := by
 unfold JT at h
 split at h
 ·cases h
 ·split at h
  ·cases h; exact NX _ _ _ _
  ·cases h
theorem UL : ∀ {k : Nat} {d d' : Desk}, DW k d = some d' -> ∀ i, (gD d'.all i).fr = (gD d.all i).fr /\ (gD d'.all i).to = (gD d.all i).to /\ (gD d'.all i).sp = (gD d.all i).sp
 | 0, _, _, h => by cases h
 | k + 1, d, d', h => λ i => by
  simp only [DW] at h
  split at h
  ·cases h; exact ⟨rfl, rfl, rfl⟩
  ·split at h
   ·cases h
   ·rename_i d1 hd1
    obtain ⟨a1, a2, a3⟩ := UL h i
    unfold GN at hd1
    simp only at hd1
    split at hd1
    ·cases hd1
    split at hd1
    ·cases hd1
    split at hd1
    ·cases hd1
    rename_i hm
    cases hd1
    obtain ⟨b1, b2, b3⟩ := Gz hm i
    exact ⟨a1.trans b1, a2.trans b2, a3.trans b3⟩
theorem GM (N : NetL) (k : Nat) : BD N (k + 1) = if Hi N k then BD N k ++ [(k : Int)] else BD N k := by
 unfold BD
 rw [List.range_succ, List.filter_append, List.map_append]
 by_cases h : Hi N k = true
 ·simp [h]
 ·simp [h]
theorem Li (N : NetL) (k : Nat) : (BY (CS N k)).getD default = MQ N k := rfl
theorem Dk {N : NetL} {k : Nat} (hk : k < N.r.length) {w : Way} (hw : w.sp = wide) : AC N.r.length (λ i => (⟨bif decide (i = k) then (gD N.r k).fr else (gD N.r i).fr, bif decide (i = k) then (gD N.r k).to else (gD N.r i).to, ⟨bif decide (i = k) then w.sp.lo else (gD N.r i).sp.lo, bif decide (i = k) then w.sp.hi else (gD N.r i).sp.hi⟩⟩ : Reach)) = (PS N k).r := by
 apply OD
 ·simp [PS]
 ·intro i hi
  simp only [rng_length] at hi
  rw [Ky _ _ _ hi]
  show _ = gD (N.r.modify k λ r => { r with sp := wide }) i
  rw [BR hk]
  by_cases he : i = k
  ·subst he; simp [hw]
  ·simp only [he, decide_false, cond_false, if_false]
theorem MH (N : NetL) (k : Nat) : (CS N k).all.length = N.r.length + N.g.length := by
 show ((AQ N).all.modify k _).length = _
 rw [List.length_modify, BV]
theorem YS {N : NetL} {k : Nat} (hk : k < N.r.length + N.g.length) (i : Nat) : gD (CS N k).all i = if i = k then { (gD (AQ N).all k) with sp := wide } else gD (AQ N).all i := by
 show gD ((AQ N).all.modify k _) i = _
 rw [BR (by rw [BV]; exact hk)]
theorem UG {N : NetL} (h : Good N) {k : Nat} (hk : k < N.r.length) : (CS N k).ok := by
 have hb := UP h
 refine ⟨hb.out, by rw [MH, <- BV]; exact hb.len, by rw [MH, <- BV]; exact hb.cut, λ i hi => ?_⟩
 rw [MH] at hi
 have := hb.ends i (by rw [BV]; exact hi)
 rw [YS (by omega)]
 split
 ·rename_i he; subst he; exact this
 ·exact this
theorem p25 (N : NetL) (h1 : AD N = 0) (h2 : (AT N).isSome = true) (h3 : CJ N ≠ 0) (h4 : ∀ i, i < N.r.length -> (BY (CS N i)).isSome = true) : V25 N := by
 have hg := DD h1
 have g1 := hg.g1
 have g8 := hg.g8
 have r14 := hg.r14
 have hbl := BV N
 have hF : ∀ k, k < N.r.length -> BY (CS N k) = some (MQ N k) := λ k hk => by
  obtain ⟨d, hd⟩ := Option.isSome_iff_exists.1 (h4 k hk)
  unfold MQ; rw [hd]; rfl
 have hFl : ∀ k, k < N.r.length -> (MQ N k).all.length = N.r.length + N.g.length /\ (MQ N k).out = N.g.length /\ (MQ N k).nR = N.r.length := λ k hk => by
  obtain ⟨a, b, c⟩ := PH (hF k hk)
  exact ⟨a.trans (MH N k), b, c⟩
 have hFs : ∀ k, k < N.r.length -> (gD (MQ N k).all k).sp = wide := λ k hk => by
  rw [(UL (hF k hk) k).2.2, YS (by omega), if_pos rfl]
 have hro : ∀ k, (BD N k).length <= k := λ k => by
  unfold BD; rw [List.length_map]; exact Nat.le_trans (List.length_filter_le _ _) (by simp)
 rw [vc25]; (conv => zeta); simp only [CC, eq_self, implies_true, forall_const, DL.d6, DL.d7, DL.d8, Li, Kj, Kg, List.headD_cons]
 have hdi : ∀ k, k < N.r.length -> ∀ i, i < (CS N k).all.length -> (gD (CS N k).all i).fr = (bif decide (i = k) then (gD (AQ N).all k).fr else (gD (AQ N).all i).fr) /\ (gD (CS N k).all i).to = (bif decide (i = k) then (gD (AQ N).all k).to else (gD (AQ N).all i).to) /\ (gD (CS N k).all i).sp.lo = (bif decide (i = k) then -100000000 else (gD (AQ N).all i).sp.lo) /\ (gD (CS N k).all i).sp.hi = (bif decide (i = k) then 100000000 else (gD (AQ N).all i).sp.hi) /\ (gD (CS N k).all i).now = (bif decide (i = k) then (gD (AQ N).all k).now else (gD (AQ N).all i).now) := λ k hk i _ => by
  rw [YS (by omega)]
  by_cases he : i = k
  ·subst he; rw [if_pos rfl]; refine ⟨?_, ?_, ?_, ?_, ?_⟩ <;> (simp; try rfl)
  ·rw [if_neg he]; refine ⟨?_, ?_, ?_, ?_, ?_⟩ <;> simp [he]
 have hdl : ∀ k, (CS N k).all.length = (AQ N).all.length := λ k => by rw [MH, hbl]
 have hsr : ∀ q, q < N.r.length -> ∀ j, j < N.r.length -> (gD (PS N q).r j).fr = (bif decide (j = q) then (gD N.r q).fr else (gD N.r j).fr) /\ (gD (PS N q).r j).to = (bif decide (j = q) then (gD N.r q).to else (gD N.r j).to) /\ (gD (PS N q).r j).sp.lo = (bif decide (j = q) then (gD (MQ N q).all q).sp.lo else (gD N.r j).sp.lo) /\ (gD (PS N q).r j).sp.hi = (bif decide (j = q) then (gD (MQ N q).all q).sp.hi else (gD N.r j).sp.hi) := λ q hq j _ => by
  have e : gD (PS N q).r j = if j = q then { (gD N.r q) with sp := wide } else gD N.r j := by
   show gD (N.r.modify q λ r => { r with sp := wide }) j = _
   rw [BR hq]
  rw [e, hFs q hq]
  by_cases he : j = q
  ·subst he; rw [if_pos rfl]; refine ⟨?_, ?_, ?_, ?_⟩ <;> simp
  ·rw [if_neg he]; refine ⟨?_, ?_, ?_, ?_⟩ <;> simp [he]
 have hB : ∀ k, ((IJ ⟨N.g, (PS N k).r⟩ (AP (MQ N k)) == 0) : Bool) = Hi N k := λ k => by
  unfold Hi
  show (IJ (PS N k) (AP (MQ N k)) == 0) = _
  by_cases h : IJ (PS N k) (AP (MQ N k)) = 0 <;> simp [h]
 refine ⟨⟨h1, h2⟩, λ h => absurd h h3, λ _ => ⟨⟨0, rfl, Nat.zero_le _, rfl⟩, ?la, ?lb⟩⟩
 case la =>
  intro k ⟨hk, hnil⟩
  refine ⟨λ hlt => ⟨⟨⟨by omega, by omega⟩, by omega⟩, ⟨⟨⟨by omega, by omega⟩, by omega⟩, ⟨k, ⟨rfl, rfl, hdl k, rfl, rfl, hdl k, hdi k (by omega)⟩, by omega, hnil, rfl⟩⟩, ?ca, ?cb⟩, λ hge => ?_⟩
  case ca =>
   intro q ⟨hq, hn, hm⟩
   obtain ⟨l1, l2, l3⟩ := hFl q hq
   rw [Dk hq (hFs q hq), hB, l1, l2, l3, LF, KY, l2, l3]
   refine ⟨⟨UG hg hq, by rw [hF q hq]; rfl⟩, ⟨⟨g1, by omega⟩, Nat.le_refl _⟩, ⟨by omega, by omega⟩, ⟨⟨by omega, by omega⟩, by omega, ⟨by omega, by omega⟩, hq⟩, ⟨Nat.le_refl _, hsr q hq, rfl, Nat.le_refl _, rfl, Nat.le_refl _, ⟨g1, by omega⟩, by omega, rfl, rfl⟩, λ hb => ?_, λ hb => ?_⟩
   ·have e : BD N (q + 1) = [(q : Int)] := by rw [GM, if_pos hb, hn]; rfl
    refine ⟨⟨by decide, by decide, by decide, by decide, by decide⟩, q + 1, ⟨by rw [e]; rfl, (BB (by omega)).symm, by rw [e]; rfl, λ i hi => ?_⟩, by omega, by omega⟩
    rw [e] at hi ⊢
    have : i = 0 := by simpa using hi
    subst this; rfl
   ·have e : BD N (q + 1) = [] := by rw [GM, hb, hn]; rfl
    exact ⟨q + 1, (BB (by omega)).symm, ⟨by omega, e⟩, by omega⟩
  case cb =>
   intro q ⟨hq, hm⟩
   obtain ⟨l1, l2, l3⟩ := hFl q hq
   rw [Dk hq (hFs q hq), hB, l1, l2, l3, LF, KY, l2, l3]
   refine ⟨⟨UG hg hq, by rw [hF q hq]; rfl⟩, ⟨⟨g1, by omega⟩, Nat.le_refl _⟩, ⟨by omega, by omega⟩, ⟨⟨by omega, by omega⟩, by omega, ⟨by omega, by omega⟩, hq⟩, ⟨Nat.le_refl _, hsr q hq, rfl, Nat.le_refl _, rfl, Nat.le_refl _, ⟨g1, by omega⟩, by omega, rfl, rfl⟩, λ hb => ?_, λ hb => ?_⟩
   ·have e : BD N (q + 1) = BD N q ++ [(q : Int)] := by rw [GM, if_pos hb]
    have := hro q
    refine ⟨⟨by decide, by decide, by omega, by omega⟩, q + 1, ⟨by rw [e]; simp, (BB (by omega)).symm, by rw [e]; simp, λ i hi => ?_⟩, by omega, by omega⟩
    rw [e] at hi ⊢
    rw [CA]
    by_cases hi2 : i < (BD N q).length
    ·simp [hi2]
    ·have : i - (BD N q).length = 0 := by simp at hi; omega
     simp only [hi2, if_false, decide_false, cond_false, this]; rfl
   ·have e : BD N (q + 1) = BD N q := by rw [GM, hb]; rfl
    exact ⟨q + 1, ⟨by rw [e], (BB (by omega)).symm, by rw [e], λ i _ => by rw [e]⟩, by omega, by omega⟩
  ·have : k = N.r.length := by omega
   subst this; rw [hnil]; rfl
 case lb =>
  intro k hk
  refine ⟨λ hlt => ⟨⟨⟨by omega, by omega⟩, by omega⟩, ⟨⟨⟨by omega, by omega⟩, by omega⟩, ⟨k, ⟨rfl, rfl, rfl, hdl k, rfl, rfl, hdl k, hdi k (by omega), rfl, λ _ _ => rfl⟩, by omega, rfl⟩⟩, ?ca, ?cb⟩, λ hge => ?_⟩
  case ca =>
   intro q ⟨hq, hn, hm⟩
   obtain ⟨l1, l2, l3⟩ := hFl q hq
   rw [Dk hq (hFs q hq), hB, l1, l2, l3, LF, KY, l2, l3]
   refine ⟨⟨UG hg hq, by rw [hF q hq]; rfl⟩, ⟨⟨g1, by omega⟩, Nat.le_refl _⟩, ⟨by omega, by omega⟩, ⟨⟨by omega, by omega⟩, by omega, ⟨by omega, by omega⟩, hq⟩, ⟨Nat.le_refl _, hsr q hq, rfl, Nat.le_refl _, rfl, Nat.le_refl _, ⟨g1, by omega⟩, by omega, rfl, rfl⟩, λ hb => ?_, λ hb => ?_⟩
   ·have e : BD N (q + 1) = [(q : Int)] := by rw [GM, if_pos hb, hn]; rfl
    refine ⟨⟨by decide, by decide, by decide, by decide, by decide⟩, q + 1, ⟨by rw [e]; rfl, (BB (by omega)).symm, by rw [e]; rfl, λ i hi => ?_⟩, by omega, by omega⟩
    rw [e] at hi ⊢
    have : i = 0 := by simpa using hi
    subst this; rfl
   ·have e : BD N (q + 1) = [] := by rw [GM, hb, hn]; rfl
    exact ⟨q + 1, (BB (by omega)).symm, ⟨by omega, e⟩, by omega⟩
  case cb =>
   intro q ⟨hq, hm⟩
   obtain ⟨l1, l2, l3⟩ := hFl q hq
   rw [Dk hq (hFs q hq), hB, l1, l2, l3, LF, KY, l2, l3]
   refine ⟨⟨UG hg hq, by rw [hF q hq]; rfl⟩, ⟨⟨g1, by omega⟩, Nat.le_refl _⟩, ⟨by omega, by omega⟩, ⟨⟨by omega, by omega⟩, by omega, ⟨by omega, by omega⟩, hq⟩, ⟨Nat.le_refl _, hsr q hq, rfl, Nat.le_refl _, rfl, Nat.le_refl _, ⟨g1, by omega⟩, by omega, rfl, rfl⟩, λ hb => ?_, λ hb => ?_⟩
   ·have e : BD N (q + 1) = BD N q ++ [(q : Int)] := by rw [GM, if_pos hb]
    have := hro q
    refine ⟨⟨by decide, by decide, by omega, by omega⟩, q + 1, ⟨by rw [e]; simp, (BB (by omega)).symm, by rw [e]; simp, λ i hi => ?_⟩, by omega, by omega⟩
    rw [e] at hi ⊢
    rw [CA]
    by_cases hi2 : i < (BD N q).length
    ·simp [hi2]
    ·have : i - (BD N q).length = 0 := by simp at hi; omega
     simp only [hi2, if_false, decide_false, cond_false, this]; rfl
   ·have e : BD N (q + 1) = BD N q := by rw [GM, hb]; rfl
    exact ⟨q + 1, ⟨by rw [e], (BB (by omega)).symm, by rw [e], λ i _ => by rw [e]⟩, by omega, by omega⟩
  ·have : k = N.r.length := by omega
   subst this; exact ⟨rfl, Nat.le_refl _, λ _ _ => rfl⟩
theorem ok25 : AL Try.prog 25 (C25.spec XP) := JC C25 A25 [] [202] Try.func25 (λ _ => by kernel_rfl) (λ _ => AB ok19 (AB Vr (AB Wh (AB Rj (AB ok69 (AB Yi AH)))))) (λ N h => p25 N h.1 h.2.1 h.2.2.1 h.2.2.2) (λ _ => KF rfl rfl) _
end Go.Bal
