/- Balanced of the reference; Balanced, Holds, Cost of both. -/
import Derived.Test.YtonddbmhljelgaaBalZ
set_option linter.unusedVariables false
set_option linter.unusedSimpArgs false
namespace Go.Bal
open Go Go.Sym Go.Proofs
def TK (N : NetL) (T : TruthL) : List Int := if EK N T = 0 then QC N T else []
structure SIX where
 s : Nat
 i : Nat
 x : Int
 deriving Inhabited
def rbO (a : NT) : List (Nat × HCell) := [(200, EZ a.N), (201, Tt a.T)]
def rbS (v : AVal) (s : Nat) : List (Nat × AVal) := [(2, .bptr 200 0), (3, .bptr 201 0), (7, v), (8, .int s)]
def rbR (a : NT) (s : Nat) : List (Nat × HCell) := [(203, Bx (EG a.N a.T s).length (EG a.N a.T s))]
def rbOk (a : NT) : Prop := EK a.N a.T = 0
def Xv (a : NT) (ag : List (Nat × Nat)) : Shape := { α := Nat, dflt := 0, T := λ s => ⟨rbS (.own 203 1 0 (EG a.N a.T s).length) s, rbO a ++ rbR a s⟩, inv := λ s => rbOk a /\ s <= a.N.g.length, meas := λ s => a.N.g.length - s, again := ag }
def AAK (a : NT) (gs : List Nat) (s : SIX) : Prop := rbOk a /\ s.s < a.N.g.length /\ a.N.g.length - s.s = gs.headD 0 /\ s.i <= a.N.r.length /\ Bk s.s s.x (a.N.r.drop s.i) (a.T.f.drop s.i) = ZS a.N a.T s.s
def A47 (a : NT) : Ann := { ann 73 [(83, C78.spec Yh)] with mt := λ id => id == 17, inner := λ gs id => if id = 6 then some [{ α := Nat, dflt := 0, T := λ s => ⟨rbS (.d LT) s, rbO a⟩, inv := λ s => rbOk a /\ s <= a.N.g.length /\ EG a.N a.T s = [], meas := λ s => a.N.g.length - s, first := [(200, 1000), (201, 1016)] }, Xv a [(203, 18048)], Xv a []] else if id = 10 then some [{ α := SIX, dflt := default, T := λ s => ⟨rbS (.d LT) s.s ++ [(9, .int s.x), (10, .int s.i)], rbO a⟩, inv := λ s => AAK a gs s /\ EG a.N a.T s.s = [], meas := λ s => a.N.r.length - s.i }, { α := SIX, dflt := default, T := λ s => ⟨rbS (.own 203 1 0 (EG a.N a.T s.s).length) s.s ++ [(9, .int s.x), (10, .int s.i)], rbO a ++ rbR a s.s⟩, inv := λ s => AAK a gs s, meas := λ s => a.N.r.length - s.i }] else none }
def xsNT (a : NT) : List AVal := [.d (EI a.N), .d (EY a.T)]
def C47 : Ctr := { α := NT, xs := xsNT, L := λ _ => [], val := λ a => .tup [.d (AW (TK a.N a.T)), .int (EK a.N a.T)], keep := λ _ => [], pre := λ a => [QJ a.N, Ft a.T] }
def V47 (a : NT) : Prop := BC Try.prog (A47 a) Try.f47 (AH Try.f47) (C47.xs a) (AE []) (C47.val a) [] [] [203]
theorem vc47 (a : NT) : (V47 a) = (let q := a
 let y0 : List Span := AD q.N.g.length λ (i : Nat) => gD q.N.g i
 let y1 := y0.length
 let y2 (i : Nat) : Span := gD y0 i
 let y3 : List Reach := AD q.N.r.length λ (i : Nat) => gD q.N.r i
 let y4 := y3.length
 let y5 (i : Nat) : Reach := gD y3 i
 let y6 (i : Nat) : Span := (y5 i).sp
 let y7 : List Int := AD q.T.f.length λ (i : Nat) => gD q.T.f i
 let y8 := y7.length
 let y9 : List Int := AD q.T.t.length λ (i : Nat) => gD q.T.t i
 let y10 := y9.length
 let y11 := EK (NetL.mk y0 y3) (TruthL.mk y7 y9)
 let y12 := (TK q.N q.T).length = 0
 let y13 := 0 = 0
 let y14 := ∀ (i : Nat), i < 0 -> false = false
 let y15 := q.N.g.length = q.N.g.length
 let y16 := ∀ (i : Nat), i < q.N.g.length -> (gD q.N.g i).lo = (gD q.N.g i).lo /\ (gD q.N.g i).hi = (gD q.N.g i).hi
 let y17 := q.N.r.length = q.N.r.length
 let y18 := ∀ (i : Nat), i < q.N.r.length -> (gD q.N.r i).fr = (gD q.N.r i).fr /\ (gD q.N.r i).to = (gD q.N.r i).to /\ (gD q.N.r i).sp.lo = (gD q.N.r i).sp.lo /\ (gD q.N.r i).sp.hi = (gD q.N.r i).sp.hi
 let y19 := q.T.f.length = q.T.f.length
 let y20 := ∀ (i : Nat), i < q.T.f.length -> gD q.T.f i = gD q.T.f i
 let y21 := q.T.t.length = q.T.t.length
 let y22 := ∀ (i : Nat), i < q.T.t.length -> gD q.T.t i = gD q.T.t i
 let y23 := y15 /\ y16 /\ y17 /\ y18 /\ y19 /\ y20 /\ y21 /\ y22
 let y24 := EK q.N q.T = 0
 let y25 (a1 : Nat) := y24 /\ a1 <= q.N.g.length /\ EG q.N q.T a1 = []
 let y26 (a : Nat) := decide ((↑a : Int) < (↑q.N.g.length : Int))
 let y27 (a : Nat) := 0 <= (↑a : Int) /\ (↑a : Int) < (↑q.T.t.length : Int)
 let y28 (a : SIX) (a1 : Nat) := (↑a.s : Int) = (↑a1 : Int)
 let y29 (a : SIX) (a2 : Nat) := a.x = gD q.T.t a2
 let y30 (a : SIX) := (↑a.i : Int) = 0
 let y31 (a : SIX) := a.s < q.N.g.length
 let y32 (a1 : SIX) := q.N.g.length - a1.s
 let y33 (a1 : Nat) := q.N.g.length - a1
 let y34 (a : SIX) := a.i <= q.N.r.length /\ Bk (↑a.s : Int) a.x (List.drop a.i q.N.r) (List.drop a.i q.T.f) = ZS q.N q.T a.s
 let y35 (a1 : SIX) (a2 : Nat) := y24 /\ y31 a1 /\ y32 a1 = [y33 a2].headD 0 /\ y34 a1
 let y36 (a1 : SIX) := EG q.N q.T a1.s = []
 let y37 (a1 : SIX) (a2 : Nat) := y35 a1 a2 /\ y36 a1
 let y38 (a : SIX) := (↑a.i : Int) < (↑q.N.r.length : Int)
 let y39 (a : SIX) := decide (y38 a)
 let y40 (a : SIX) := 0 <= (↑a.i : Int)
 let y41 (a : SIX) := y40 a /\ y38 a
 let y42 (a1 : SIX) := (gD q.N.r a1.i).to == (↑a1.s : Int)
 let y43 (a : SIX) := y40 a /\ (↑a.i : Int) < (↑q.T.f.length : Int)
 let y44 (a1 : SIX) := (gD q.N.r a1.i).fr == (↑a1.s : Int)
 let y45 (a : SIX) (a1 : SIX) := (↑a.s : Int) = (↑a1.s : Int)
 let y46 (a : SIX) := IntKind.i64.wrap (a.x + gD q.T.f a.i)
 let y47 (a : SIX) (a1 : SIX) := a.x = IntKind.i64.wrap (y46 a1 - gD q.T.f a1.i)
 let y48 (a : SIX) (a1 : SIX) := (↑a.i : Int) = IntKind.i64.wrap ((↑a1.i : Int) + 1)
 let y49 (a : SIX) (a1 : SIX) := y48 a a1 /\ y23
 let y50 (a : SIX) (a1 : SIX) := y13 /\ y14 /\ y45 a a1 /\ y47 a a1 /\ y49 a a1
 let y51 (a1 : SIX) := q.N.r.length - a1.i
 let y52 (a1 : SIX) (a2 : SIX) := y51 a1 < y51 a2
 let y53 (a1 : SIX) (a2 : Nat) (a3 : SIX) := y37 a1 a2 /\ y52 a1 a3
 let y54 (a : SIX) (a1 : SIX) := a.x = y46 a1
 let y55 (a : SIX) (a1 : SIX) := y13 /\ y14 /\ y45 a a1 /\ y54 a a1 /\ y49 a a1
 let y56 (a : SIX) (a1 : SIX) := a.x = IntKind.i64.wrap (a1.x - gD q.T.f a1.i)
 let y57 (a : SIX) (a1 : SIX) := y13 /\ y14 /\ y45 a a1 /\ y56 a a1 /\ y49 a a1
 let y58 (a : SIX) (a1 : SIX) := y13 /\ y14 /\ y45 a a1 /\ a.x = a1.x /\ y49 a a1
 let y59 (a : SIX) := a.x != 0
 let y60 := 0 < 1
 let y61 := 1 = 1
 let y62 := 1 <= 1 /\ (y60 -> y61)
 let y63 := (True /\ (0 < 0 -> 0 = 1)) /\ y62 /\ (true = true -> y60) /\ 1 <= 9223372036854775807 /\ 8 <= 140737488355328
 let y64 (a1 : Nat) := (EG q.N q.T a1).length = 1
 let y65 (a : Nat) (a1 : SIX) := (↑a : Int) = IntKind.i64.wrap ((↑a1.s : Int) + 1)
 let y66 (i : Nat) (a1 : Nat) := i < (EG q.N q.T a1).length
 let y67 (a1 : Nat) (i : Nat) := gD (EG q.N q.T a1) i
 let y68 (a1 : Nat) (a2 : SIX) := y13 /\ y64 a1 /\ y65 a1 a2 /\ y15 /\ y16 /\ y17 /\ y18 /\ y19 /\ y20 /\ y21 /\ y22 /\ y64 a1 /\ ∀ (i : Nat), y66 i a1 -> y67 a1 i = (↑a2.s : Int)
 let y69 (a1 : Nat) := y24 /\ a1 <= q.N.g.length
 let y70 (a1 : Nat) := (Xv q [(203, 18048)]).meas a1
 let y71 (a1 : Nat) (a2 : Nat) := y69 a1 /\ y70 a1 < y33 a2
 let y72 (a : Nat) (a1 : SIX) := y13 /\ y14 /\ y65 a a1 /\ y23
 let y73 (a1 : SIX) (a2 : SIX) := (EG q.N q.T a1.s).length = (EG q.N q.T a2.s).length
 let y74 (i : Nat) (a1 : SIX) := i < (EG q.N q.T a1.s).length
 let y75 (a1 : SIX) (i : Nat) := gD (EG q.N q.T a1.s) i
 let y76 (a : SIX) (a1 : SIX) := y48 a a1 /\ y15 /\ y16 /\ y17 /\ y18 /\ y19 /\ y20 /\ y21 /\ y22 /\ y73 a a1 /\ ∀ (i : Nat), y74 i a -> y75 a i = y75 a1 i
 let y77 (a1 : SIX) (a2 : SIX) := y13 /\ y73 a1 a2 /\ y45 a1 a2 /\ y47 a1 a2 /\ y76 a1 a2
 let y78 (a1 : SIX) (a2 : Nat) (a3 : SIX) := y35 a1 a2 /\ y52 a1 a3
 let y79 (a1 : SIX) (a2 : SIX) := y13 /\ y73 a1 a2 /\ y45 a1 a2 /\ y54 a1 a2 /\ y76 a1 a2
 let y80 (a1 : SIX) (a2 : SIX) := y13 /\ y73 a1 a2 /\ y45 a1 a2 /\ y56 a1 a2 /\ y76 a1 a2
 let y81 (a1 : SIX) (a2 : SIX) := y13 /\ y73 a1 a2 /\ y45 a1 a2 /\ a1.x = a2.x /\ y76 a1 a2
 let y82 (a1 : SIX) := (EG q.N q.T a1.s).length + 1
 let y83 (a1 : SIX) := ((EG q.N q.T a1.s).length = (EG q.N q.T a1.s).length /\ (0 < (EG q.N q.T a1.s).length -> y61)) /\ y62 /\ (false = true -> y60) /\ y82 a1 <= 9223372036854775807 /\ y82 a1 * 8 <= 140737488355328
 let y84 (a1 : Nat) (a2 : SIX) := (EG q.N q.T a1).length = y82 a2
 let y85 (a1 : Nat) (a2 : SIX) := y13 /\ y84 a1 a2 /\ y65 a1 a2 /\ y15 /\ y16 /\ y17 /\ y18 /\ y19 /\ y20 /\ y21 /\ y22 /\ y84 a1 a2 /\ ∀ (i : Nat), y66 i a1 -> y67 a1 i = bif decide (y74 i a2) then y75 a2 i else (↑a2.s : Int)
 let y86 (a1 : Nat) (a2 : SIX) := (EG q.N q.T a1).length = (EG q.N q.T a2.s).length
 let y87 (a1 : Nat) (a2 : SIX) := y13 /\ y86 a1 a2 /\ y65 a1 a2 /\ y15 /\ y16 /\ y17 /\ y18 /\ y19 /\ y20 /\ y21 /\ y22 /\ y86 a1 a2 /\ ∀ (i : Nat), y66 i a1 -> y67 a1 i = y75 a2 i
 let y88 (a1 : SIX) (a2 : Nat) := (EG q.N q.T a1.s).length = (EG q.N q.T a2).length
 let y89 (a1 : SIX) (a2 : Nat) := y13 /\ y88 a1 a2 /\ y28 a1 a2 /\ y29 a1 a2 /\ y30 a1 /\ y15 /\ y16 /\ y17 /\ y18 /\ y19 /\ y20 /\ y21 /\ y22 /\ y88 a1 a2 /\ ∀ (i : Nat), y74 i a1 -> y75 a1 i = y67 a2 i
 let y90 (a1 : SIX) (a2 : Nat) := y24 /\ y31 a1 /\ y32 a1 = [y70 a2].headD 0 /\ y34 a1
 let y91 (a1 : SIX) (a2 : Nat) := y90 a1 a2 /\ y36 a1
 let y92 (a1 : SIX) (a2 : Nat) (a3 : SIX) := y91 a1 a2 /\ y52 a1 a3
 let y93 (a1 : Nat) (a2 : Nat) := y69 a1 /\ y70 a1 < y70 a2
 let y94 (a1 : SIX) (a2 : Nat) (a3 : SIX) := y90 a1 a2 /\ y52 a1 a3
 let y95 (a1 : Nat) := (TK q.N q.T).length = (EG q.N q.T a1).length /\ 0 + (EG q.N q.T a1).length <= (EG q.N q.T a1).length /\ (∀ (j : Nat), j < (TK q.N q.T).length -> gD (TK q.N q.T) j = gD (EG q.N q.T a1) (0 + j)) /\ y24
 let y96 (a1 : SIX) (a2 : Nat) := y24 /\ y31 a1 /\ y32 a1 = [(Xv q []).meas a2].headD 0 /\ y34 a1
 let y97 (a1 : SIX) (a2 : Nat) := y96 a1 a2 /\ y36 a1
 let y98 (a1 : SIX) (a2 : Nat) (a3 : SIX) := y97 a1 a2 /\ y52 a1 a3
 let y99 (a1 : Nat) (a2 : Nat) := y69 a1 /\ y70 a1 < (Xv q []).meas a2
 let y100 (a1 : SIX) (a2 : Nat) (a3 : SIX) := y96 a1 a2 /\ y52 a1 a3
 ((y1 = a.N.g.length /\ (∀ (i : Nat), i < y1 -> (y2 i).lo = (gD a.N.g i).lo /\ (y2 i).hi = (gD a.N.g i).hi) /\ y4 = a.N.r.length /\ (∀ (i : Nat), i < y4 -> (y5 i).fr = (gD a.N.r i).fr /\ (y5 i).to = (gD a.N.r i).to /\ (y6 i).lo = (gD a.N.r i).sp.lo /\ (y6 i).hi = (gD a.N.r i).sp.hi) /\ y8 = a.T.f.length /\ (∀ (i : Nat), i < y8 -> gD y7 i = gD a.T.f
 i) /\ y10 = a.T.t.length /\ (∀ (i : Nat), i < y10 -> gD y9 i = gD a.T.t i) /\ (y1 <= 1000000 /\ y4 <= 1000000) /\ y8 <= 1000000 /\ y10 <= 1000000) /\ bif y11 != 0 then y12 /\ y12 /\
 EK a.N a.T = y11 else (∃ (a_1 : Nat), (y13 /\ y14 /\ (↑a_1 : Int) = 0 /\ y23) /\ y25 a_1) /\ (∀ (a_1 : Nat), y25 a_1 -> bif y26 a_1 then y27 a_1 /\ (∃ (a_3 : SIX), (y13 /\ y14 /\ y28 a_3 a_1 /\ y29 a_3 a_1 /\ y30 a_3 /\ y23) /\ y37 a_3 a_1) /\ (∀ (a_3 : SIX), y37 a_3 a_1 -> bif y39 a_3 then y41 a_3 /\ bif y42 a_3 then y43 a_3 /\ y41 a_3 /\ bif y44 a_3 then
 y43 a_3 /\ ∃ (a_5 : SIX), y50 a_5 a_3 /\ y53 a_5 a_1 a_3 else ∃ (a_5 : SIX), y55 a_5 a_3 /\ y53 a_5 a_1 a_3 else y41 a_3 /\ bif y44 a_3 then y43 a_3 /\ ∃ (a_5 : SIX), y57 a_5 a_3 /\
 y53 a_5 a_1 a_3 else ∃ (a_5 : SIX), y58 a_5 a_3 /\ y53 a_5 a_1 a_3 else bif y59 a_3 then y63 /\ ∃ (a_5 : Nat), y68 a_5 a_3 /\ y71 a_5 a_1 else ∃ (a_5 : Nat), y72 a_5 a_3 /\ y25 a_5 /\
 y33 a_5 < y33 a_1) /\ ∀ (a_3 : SIX), y35 a_3 a_1 -> bif y39 a_3 then y41 a_3 /\ bif y42 a_3 then y43 a_3 /\ y41 a_3 /\ bif y44 a_3 then y43 a_3 /\ ∃ (a_5 : SIX), y77 a_5 a_3 /\ y78 a_5 a_1 a_3 else ∃ (a_5 : SIX), y79 a_5 a_3 /\ y78 a_5 a_1 a_3 else y41 a_3 /\ bif y44 a_3 then y43 a_3 /\ ∃ (a_5 : SIX), y80 a_5 a_3 /\ y78 a_5 a_1 a_3 else ∃ (a_5 : SIX),
 y81 a_5 a_3 /\ y78 a_5 a_1 a_3 else bif y59 a_3 then y83 a_3 /\ ∃ (a_5 : Nat), y85 a_5 a_3 /\ y71 a_5 a_1 else ∃ (a_5 : Nat), y87 a_5 a_3 /\ y69 a_5 /\ (Xv a []).meas a_5 < y33 a_1
 else y12 /\ y12 /\ y24) /\ (∀ (a_1 : Nat), y69 a_1 -> bif y26 a_1 then y27 a_1 /\ (∃ (a_3 : SIX), y89 a_3 a_1 /\ y90 a_3 a_1) /\ (∀ (a_3 : SIX), y91 a_3 a_1 -> bif y39 a_3 then
 y41 a_3 /\ bif y42 a_3 then y43 a_3 /\ y41 a_3 /\ bif y44 a_3 then y43 a_3 /\ ∃ (a_5 : SIX), y50 a_5 a_3 /\ y92 a_5 a_1 a_3 else ∃ (a_5 : SIX), y55 a_5 a_3 /\ y92 a_5 a_1 a_3
 else y41 a_3 /\ bif y44 a_3 then y43 a_3 /\ ∃ (a_5 : SIX), y57 a_5 a_3 /\ y92 a_5 a_1 a_3 else ∃ (a_5 : SIX), y58 a_5 a_3 /\ y92 a_5 a_1 a_3 else bif y59 a_3 then y63 /\ ∃ (a_5 : Nat),
 y68 a_5 a_3 /\ y93 a_5 a_1 else ∃ (a_5 : Nat), y72 a_5 a_3 /\ y25 a_5 /\ y33 a_5 < y70 a_1) /\ ∀ (a_3 : SIX), y90 a_3 a_1 -> bif y39 a_3 then y41 a_3 /\ bif y42 a_3 then y43 a_3 /\ y41 a_3 /\ bif y44 a_3 then y43 a_3 /\ ∃ (a_5 : SIX), y77 a_5 a_3 /\ y94 a_5 a_1 a_3 else ∃ (a_5 : SIX), y79 a_5 a_3 /\ y94 a_5 a_1 a_3 else y41 a_3 /\ bif y44 a_3 then
 y43 a_3 /\ ∃ (a_5 : SIX), y80 a_5 a_3 /\ y94 a_5 a_1 a_3 else ∃ (a_5 : SIX), y81 a_5 a_3 /\ y94 a_5 a_1 a_3 else bif y59 a_3 then y83 a_3 /\ ∃ (a_5 : Nat), y85 a_5 a_3 /\ y93 a_5 a_1
 else ∃ (a_5 : Nat), y87 a_5 a_3 /\ y69 a_5 /\ (Xv a []).meas a_5 < y70 a_1 else y95 a_1) /\ ∀ (a_1 : Nat), y69 a_1 -> bif y26 a_1 then y27 a_1 /\ (∃ (a_3 : SIX), y89 a_3 a_1 /\ y96 a_3 a_1) /\ (∀ (a_3 : SIX), y97 a_3 a_1 -> bif y39 a_3 then y41 a_3 /\ bif y42 a_3 then y43 a_3 /\ y41 a_3 /\ bif y44 a_3 then y43 a_3 /\ ∃ (a_5 : SIX), y50 a_5 a_3 /\ y98 a_5 a_1 a_3 else ∃ (a_5 : SIX), y55 a_5 a_3 /\ y98 a_5 a_1 a_3 else y41 a_3 /\ bif y44 a_3 then y43 a_3 /\ ∃ (a_5 : SIX), y57 a_5 a_3 /\ y98 a_5 a_1 a_3 else ∃ (a_5 : SIX), y58 a_5 a_3 /\
 y98 a_5 a_1 a_3 else bif y59 a_3 then y63 /\ ∃ (a_5 : Nat), y68 a_5 a_3 /\ y99 a_5 a_1 else ∃ (a_5 : Nat), y72 a_5 a_3 /\ y25 a_5 /\ y33 a_5 < (Xv a []).meas a_1) /\ ∀ (a_3 : SIX), y96 a_3 a_1 -> bif y39 a_3 then y41 a_3 /\ bif y42 a_3 then y43 a_3 /\ y41 a_3 /\ bif y44 a_3 then y43 a_3 /\ ∃ (a_5 : SIX), y77 a_5 a_3 /\ y100 a_5 a_1 a_3 else ∃ (a_5 : SIX), y79 a_5 a_3 /\ y100 a_5 a_1 a_3 else y41 a_3 /\ bif y44 a_3 then y43 a_3 /\ ∃ (a_5 : SIX), y80 a_5 a_3 /\ y100 a_5 a_1 a_3 else ∃ (a_5 : SIX), y81 a_5 a_3 /\ y100 a_5 a_1 a_3 else bif
 y59 a_3 then y83 a_3 /\ ∃ (a_5 : Nat), y85 a_5 a_3 /\ y99 a_5 a_1 else ∃ (a_5 : Nat), y87 a_5 a_3 /\ y69 a_5 /\ (Xv a []).meas a_5 < (Xv a []).meas a_1 else y95 a_1)) := by kernel_rfl
theorem Xx (a : NT) (ag : List (Nat × Nat)) (s : Nat) : (Xv a ag).meas s = a.N.g.length - s := rfl
theorem VX {s x : Int} {l : List Reach} {m : List Int} {k : Nat} (h1 : k < l.length) (h2 : k < m.length) : Bk s x (l.drop k) (m.drop k) = Bk s (TI s x (gD l k) (gD m k)) (l.drop (k + 1)) (m.drop (k + 1)) := by
 rw [ED h1, ED h2]; rfl
theorem Aj {s x : Int} {l : List Reach} {m : List Int} {k : Nat} (h1 : l.length <= k) : Bk s x (l.drop k) (m.drop k) = x := by
 rw [List.drop_eq_nil_of_le h1]; unfold Bk; rfl
theorem p47 (a : NT) (h1 : QJ a.N) (h2 : Ft a.T) : V47 a := by
 rw [vc47]; (conv => zeta); simp only [CC, eq_self, implies_true, forall_const, Xx, List.headD_cons, DL.d1, DL.d2, DL.d7, DL.d8]
 refine ⟨⟨h1, h2⟩, λ he => ?_, λ he => ?_⟩
 ·have : EK a.N a.T ≠ 0 := by simpa using he
  unfold TK; rw [if_neg this]; rfl
 have ha : EK a.N a.T = 0 := by simpa using he
 obtain ⟨hc, ⟨e1, e2⟩, _, _⟩ := YT ha
 have hg := AS hc
 have g8 := hg.g8
 have r14 := hg.r14
 have hbl : TK a.N a.T = QC a.N a.T := by unfold TK; rw [if_pos ha]
 refine ⟨⟨0, rfl, ha, Nat.zero_le _, rfl⟩, ?LA, ?LB⟩
 case LA =>
  intro k ⟨_, hk, hkn⟩
  refine ⟨λ hlt => ⟨⟨by omega, by omega⟩, ⟨⟨k, 0, gD a.T.t k⟩, ⟨rfl, rfl, rfl⟩, ⟨ha, by show k < _; omega, rfl, Nat.zero_le _, rfl⟩, hkn⟩, ?IA, ?IB⟩, λ hge => ?_⟩
  case IA =>
   intro s ⟨⟨_, hs, hm, hi, hb⟩, hn⟩
   refine ⟨λ hlt => ?_, λ hge => ?_⟩
   ·have hk : s.i < a.N.r.length := by omega
    have hk2 : s.i < a.T.f.length := by omega
    obtain ⟨_, _, _, hne⟩ := hg.r s.i hk
    rw [VX hk hk2] at hb
    refine ⟨⟨by omega, hlt⟩, λ ht => ⟨⟨by omega, by omega⟩, ⟨by omega, by omega⟩, λ hf => ?_, λ hf => ⟨⟨s.s, s.i + 1, wr (s.x + gD a.T.f s.i)⟩, ⟨rfl, rfl, (AN (by omega)).symm⟩, ⟨⟨ha, hs, hm, by show s.i + 1 <= _; omega, ?_⟩, hn⟩, by show _ - (s.i + 1) < _; omega⟩⟩, λ ht => ⟨⟨by omega, by omega⟩, λ hf => ⟨⟨by omega, by omega⟩, ⟨s.s, s.i + 1, wr (s.x - gD a.T.f s.i)⟩, ⟨rfl, rfl, (AN (by omega)).symm⟩, ⟨⟨ha, hs, hm, by show s.i + 1 <= _; omega, ?_⟩, hn⟩, by show _ - (s.i + 1) < _; omega⟩, λ hf => ⟨⟨s.s, s.i + 1, s.x⟩, ⟨rfl, rfl, (AN (by omega)).symm⟩, ⟨⟨ha, hs, hm, by show s.i + 1 <= _; omega, ?_⟩, hn⟩, by show _ - (s.i + 1) < _; omega⟩⟩⟩
    ·have e1 : (gD a.N.r s.i).to = s.s := by simpa using ht
     have e2 : (gD a.N.r s.i).fr = s.s := by simpa using hf
     omega
    ·have e1 : (gD a.N.r s.i).to = s.s := by simpa using ht
     have e2 : ¬ (gD a.N.r s.i).fr = s.s := by simpa using hf
     rw [<- hb]; unfold TI; rw [if_neg e2, if_pos e1]
    ·have e1 : ¬ (gD a.N.r s.i).to = s.s := by simpa using ht
     have e2 : (gD a.N.r s.i).fr = s.s := by simpa using hf
     rw [<- hb]; unfold TI; rw [if_pos e2]
    ·have e1 : ¬ (gD a.N.r s.i).to = s.s := by simpa using ht
     have e2 : ¬ (gD a.N.r s.i).fr = s.s := by simpa using hf
     rw [<- hb]; unfold TI; rw [if_neg e2, if_neg e1]
   ·rw [Aj (by omega)] at hb
    refine ⟨λ hx => ?_, λ hx => ?_⟩
    ·have hu : NY a.N a.T s.s = true := by rw [hb] at hx; unfold NY; simpa using hx
     have e : EG a.N a.T (s.s + 1) = [(s.s : Int)] := by rw [IM, if_pos hu, hn]; rfl
     refine ⟨⟨by decide, by decide, by decide, by decide, by decide⟩, s.s + 1, ⟨by rw [e]; rfl, (AN (by omega)).symm, by rw [e]; rfl, λ i hi => ?_⟩, ⟨ha, by omega⟩, by omega⟩
     rw [e] at hi ⊢
     have : i = 0 := by simpa using hi
     subst this; rfl
    ·have hu : NY a.N a.T s.s = false := by rw [hb] at hx; unfold NY; simpa using hx
     have e : EG a.N a.T (s.s + 1) = [] := by rw [IM, hu, hn]; rfl
     exact ⟨s.s + 1, (AN (by omega)).symm, ⟨ha, by omega, e⟩, by omega⟩
  case IB =>
   intro s ⟨_, hs, hm, hi, hb⟩
   have hle := Kg a.N a.T s.s
   refine ⟨λ hlt => ?_, λ hge => ?_⟩
   ·have hk : s.i < a.N.r.length := by omega
    have hk2 : s.i < a.T.f.length := by omega
    obtain ⟨_, _, _, hne⟩ := hg.r s.i hk
    rw [VX hk hk2] at hb
    refine ⟨⟨by omega, hlt⟩, λ ht => ⟨⟨by omega, by omega⟩, ⟨by omega, by omega⟩, λ hf => ?_, λ hf => ⟨⟨s.s, s.i + 1, wr (s.x + gD a.T.f s.i)⟩, ⟨rfl, rfl, rfl, (AN (by omega)).symm, rfl, λ _ _ => rfl⟩, ⟨ha, hs, hm, by show s.i + 1 <= _; omega, ?_⟩, by show _ - (s.i + 1) < _; omega⟩⟩, λ ht => ⟨⟨by omega, by omega⟩, λ hf => ⟨⟨by omega, by omega⟩, ⟨s.s, s.i + 1, wr (s.x - gD a.T.f s.i)⟩, ⟨rfl, rfl, rfl, (AN (by omega)).symm, rfl, λ _ _ => rfl⟩, ⟨ha, hs, hm, by show s.i + 1 <= _; omega, ?_⟩, by show _ - (s.i + 1) < _; omega⟩, λ hf => ⟨⟨s.s, s.i + 1, s.x⟩, ⟨rfl, rfl, rfl, (AN (by omega)).symm, rfl, λ _ _ => rfl⟩, ⟨ha, hs, hm, by show s.i + 1 <= _; omega, ?_⟩, by show _ - (s.i + 1) < _; omega⟩⟩⟩
    ·have e1 : (gD a.N.r s.i).to = s.s := by simpa using ht
     have e2 : (gD a.N.r s.i).fr = s.s := by simpa using hf
     omega
    ·have e1 : (gD a.N.r s.i).to = s.s := by simpa using ht
     have e2 : ¬ (gD a.N.r s.i).fr = s.s := by simpa using hf
     rw [<- hb]; unfold TI; rw [if_neg e2, if_pos e1]
    ·have e1 : ¬ (gD a.N.r s.i).to = s.s := by simpa using ht
     have e2 : (gD a.N.r s.i).fr = s.s := by simpa using hf
     rw [<- hb]; unfold TI; rw [if_pos e2]
    ·have e1 : ¬ (gD a.N.r s.i).to = s.s := by simpa using ht
     have e2 : ¬ (gD a.N.r s.i).fr = s.s := by simpa using hf
     rw [<- hb]; unfold TI; rw [if_neg e2, if_neg e1]
   ·rw [Aj (by omega)] at hb
    refine ⟨λ hx => ?_, λ hx => ?_⟩
    ·have hu : NY a.N a.T s.s = true := by rw [hb] at hx; unfold NY; simpa using hx
     have e : EG a.N a.T (s.s + 1) = EG a.N a.T s.s ++ [(s.s : Int)] := by rw [IM, if_pos hu]
     refine ⟨⟨by decide, by decide, by omega, by omega⟩, s.s + 1, ⟨by rw [e]; simp, (AN (by omega)).symm, by rw [e]; simp, λ i hi => ?_⟩, ⟨ha, by omega⟩, by omega⟩
     rw [e] at hi ⊢
     rw [BO]
     by_cases hi2 : i < (EG a.N a.T s.s).length
     ·simp [hi2]
     ·have : i - (EG a.N a.T s.s).length = 0 := by simp at hi; omega
      simp only [hi2, if_false, decide_false, cond_false, this]; rfl
    ·have hu : NY a.N a.T s.s = false := by rw [hb] at hx; unfold NY; simpa using hx
     have e : EG a.N a.T (s.s + 1) = EG a.N a.T s.s := by rw [IM, hu]; rfl
     exact ⟨s.s + 1, ⟨by rw [e], (AN (by omega)).symm, by rw [e], λ i _ => by rw [e]⟩, ⟨ha, by omega⟩, by omega⟩
  ·have : k = a.N.g.length := by omega
   rw [hbl]; unfold QC; rw [<- this, hkn]; exact ⟨rfl, rfl, ha⟩
 case LB =>
  intro k ⟨_, hk⟩
  refine ⟨λ hlt => ⟨⟨by omega, by omega⟩, ⟨⟨k, 0, gD a.T.t k⟩, ⟨rfl, rfl, rfl, rfl, rfl, λ _ _ => rfl⟩, ha, by show k < _; omega, rfl, Nat.zero_le _, rfl⟩, ?IA, ?IB⟩, λ hge => ?_⟩
  case IA =>
   intro s ⟨⟨_, hs, hm, hi, hb⟩, hn⟩
   refine ⟨λ hlt => ?_, λ hge => ?_⟩
   ·have hk : s.i < a.N.r.length := by omega
    have hk2 : s.i < a.T.f.length := by omega
    obtain ⟨_, _, _, hne⟩ := hg.r s.i hk
    rw [VX hk hk2] at hb
    refine ⟨⟨by omega, hlt⟩, λ ht => ⟨⟨by omega, by omega⟩, ⟨by omega, by omega⟩, λ hf => ?_, λ hf => ⟨⟨s.s, s.i + 1, wr (s.x + gD a.T.f s.i)⟩, ⟨rfl, rfl, (AN (by omega)).symm⟩, ⟨⟨ha, hs, hm, by show s.i + 1 <= _; omega, ?_⟩, hn⟩, by show _ - (s.i + 1) < _; omega⟩⟩, λ ht => ⟨⟨by omega, by omega⟩, λ hf => ⟨⟨by omega, by omega⟩, ⟨s.s, s.i + 1, wr (s.x - gD a.T.f s.i)⟩, ⟨rfl, rfl, (AN (by omega)).symm⟩, ⟨⟨ha, hs, hm, by show s.i + 1 <= _; omega, ?_⟩, hn⟩, by show _ - (s.i + 1) < _; omega⟩, λ hf => ⟨⟨s.s, s.i + 1, s.x⟩, ⟨rfl, rfl, (AN (by omega)).symm⟩, ⟨⟨ha, hs, hm, by show s.i + 1 <= _; omega, ?_⟩, hn⟩, by show _ - (s.i + 1) < _; omega⟩⟩⟩
    ·have e1 : (gD a.N.r s.i).to = s.s := by simpa using ht
     have e2 : (gD a.N.r s.i).fr = s.s := by simpa using hf
     omega
    ·have e1 : (gD a.N.r s.i).to = s.s := by simpa using ht
     have e2 : ¬ (gD a.N.r s.i).fr = s.s := by simpa using hf
     rw [<- hb]; unfold TI; rw [if_neg e2, if_pos e1]
    ·have e1 : ¬ (gD a.N.r s.i).to = s.s := by simpa using ht
     have e2 : (gD a.N.r s.i).fr = s.s := by simpa using hf
     rw [<- hb]; unfold TI; rw [if_pos e2]
    ·have e1 : ¬ (gD a.N.r s.i).to = s.s := by simpa using ht
     have e2 : ¬ (gD a.N.r s.i).fr = s.s := by simpa using hf
     rw [<- hb]; unfold TI; rw [if_neg e2, if_neg e1]
   ·rw [Aj (by omega)] at hb
    refine ⟨λ hx => ?_, λ hx => ?_⟩
    ·have hu : NY a.N a.T s.s = true := by rw [hb] at hx; unfold NY; simpa using hx
     have e : EG a.N a.T (s.s + 1) = [(s.s : Int)] := by rw [IM, if_pos hu, hn]; rfl
     refine ⟨⟨by decide, by decide, by decide, by decide, by decide⟩, s.s + 1, ⟨by rw [e]; rfl, (AN (by omega)).symm, by rw [e]; rfl, λ i hi => ?_⟩, ⟨ha, by omega⟩, by omega⟩
     rw [e] at hi ⊢
     have : i = 0 := by simpa using hi
     subst this; rfl
    ·have hu : NY a.N a.T s.s = false := by rw [hb] at hx; unfold NY; simpa using hx
     have e : EG a.N a.T (s.s + 1) = [] := by rw [IM, hu, hn]; rfl
     exact ⟨s.s + 1, (AN (by omega)).symm, ⟨ha, by omega, e⟩, by omega⟩
  case IB =>
   intro s ⟨_, hs, hm, hi, hb⟩
   have hle := Kg a.N a.T s.s
   refine ⟨λ hlt => ?_, λ hge => ?_⟩
   ·have hk : s.i < a.N.r.length := by omega
    have hk2 : s.i < a.T.f.length := by omega
    obtain ⟨_, _, _, hne⟩ := hg.r s.i hk
    rw [VX hk hk2] at hb
    refine ⟨⟨by omega, hlt⟩, λ ht => ⟨⟨by omega, by omega⟩, ⟨by omega, by omega⟩, λ hf => ?_, λ hf => ⟨⟨s.s, s.i + 1, wr (s.x + gD a.T.f s.i)⟩, ⟨rfl, rfl, rfl, (AN (by omega)).symm, rfl, λ _ _ => rfl⟩, ⟨ha, hs, hm, by show s.i + 1 <= _; omega, ?_⟩, by show _ - (s.i + 1) < _; omega⟩⟩, λ ht => ⟨⟨by omega, by omega⟩, λ hf => ⟨⟨by omega, by omega⟩, ⟨s.s, s.i + 1, wr (s.x - gD a.T.f s.i)⟩, ⟨rfl, rfl, rfl, (AN (by omega)).symm, rfl, λ _ _ => rfl⟩, ⟨ha, hs, hm, by show s.i + 1 <= _; omega, ?_⟩, by show _ - (s.i + 1) < _; omega⟩, λ hf => ⟨⟨s.s, s.i + 1, s.x⟩, ⟨rfl, rfl, rfl, (AN (by omega)).symm, rfl, λ _ _ => rfl⟩, ⟨ha, hs, hm, by show s.i + 1 <= _; omega, ?_⟩, by show _ - (s.i + 1) < _; omega⟩⟩⟩
    ·have e1 : (gD a.N.r s.i).to = s.s := by simpa using ht
     have e2 : (gD a.N.r s.i).fr = s.s := by simpa using hf
     omega
    ·have e1 : (gD a.N.r s.i).to = s.s := by simpa using ht
     have e2 : ¬ (gD a.N.r s.i).fr = s.s := by simpa using hf
     rw [<- hb]; unfold TI; rw [if_neg e2, if_pos e1]
    ·have e1 : ¬ (gD a.N.r s.i).to = s.s := by simpa using ht
     have e2 : (gD a.N.r s.i).fr = s.s := by simpa using hf
     rw [<- hb]; unfold TI; rw [if_pos e2]
    ·have e1 : ¬ (gD a.N.r s.i).to = s.s := by simpa using ht
     have e2 : ¬ (gD a.N.r s.i).fr = s.s := by simpa using hf
     rw [<- hb]; unfold TI; rw [if_neg e2, if_neg e1]
   ·rw [Aj (by omega)] at hb
    refine ⟨λ hx => ?_, λ hx => ?_⟩
    ·have hu : NY a.N a.T s.s = true := by rw [hb] at hx; unfold NY; simpa using hx
     have e : EG a.N a.T (s.s + 1) = EG a.N a.T s.s ++ [(s.s : Int)] := by rw [IM, if_pos hu]
     refine ⟨⟨by decide, by decide, by omega, by omega⟩, s.s + 1, ⟨by rw [e]; simp, (AN (by omega)).symm, by rw [e]; simp, λ i hi => ?_⟩, ⟨ha, by omega⟩, by omega⟩
     rw [e] at hi ⊢
     rw [BO]
     by_cases hi2 : i < (EG a.N a.T s.s).length
     ·simp [hi2]
     ·have : i - (EG a.N a.T s.s).length = 0 := by simp at hi; omega
      simp only [hi2, if_false, decide_false, cond_false, this]; rfl
    ·have hu : NY a.N a.T s.s = false := by rw [hb] at hx; unfold NY; simpa using hx
     have e : EG a.N a.T (s.s + 1) = EG a.N a.T s.s := by rw [IM, hu]; rfl
     exact ⟨s.s + 1, ⟨by rw [e], (AN (by omega)).symm, by rw [e], λ i _ => by rw [e]⟩, ⟨ha, by omega⟩, by omega⟩
  ·have : k = a.N.g.length := by omega
   rw [hbl]; unfold QC; rw [<- this]
   exact ⟨rfl, Nat.le_refl _, λ _ _ => rfl, ha⟩
theorem ok47 : AI Try.prog 47 (C47.spec Yh) := HQ C47 A47 [] [203] Try.func47 (λ _ => by kernel_rfl) (λ _ => AA ok83 AF) (λ a h => p47 a h.1 h.2) (λ _ => IL rfl rfl) _
def ZF (N : NetL) (T : TruthL) : Bool := decide (EK N T = 0) && (decide ((QC N T).length = 0) && decide (EW N T = 0))
def KS (N : NetL) (T : TruthL) : Int := if EK N T = 0 then if (QC N T).length = 0 then 0 else 7 else EK N T
def RM (N : NetL) (T : TruthL) : Int := if KS N T = 0 then EW N T else 0
def C48 : Ctr := { C47 with val := λ (a : NT) => .tup [.bool (ZF a.N a.T), .int (EK a.N a.T)] }
def d48 : List AVal -> Heap -> Option (C48.α × List (Nat × Nat) × List Nat) := Yh
def C42 : Ctr := { C47 with val := λ (a : NT) => .tup [.int (RM a.N a.T), .int (KS a.N a.T)] }
def d42 : List AVal -> Heap -> Option (C42.α × List (Nat × Nat) × List Nat) := Yh
def A40 := ann 26 [(47, C47.spec Yh), (59, C59.spec Yh)]
def V40 (a : NT) : Prop := BC Try.prog A40 Try.f40 (AH Try.f40) (C48.xs a) (AE []) (C48.val a) [] [] []
theorem vc40 (a : NT) : (V40 a) = (let q := a
 let y0 : List Span := AD q.N.g.length λ (i : Nat) => gD q.N.g i
 let y1 := y0.length
 let y2 := y1 = q.N.g.length
 let y3 (i : Nat) : Span := gD y0 i
 let y4 := ∀ (i : Nat), i < y1 -> (y3 i).lo = (gD q.N.g i).lo /\ (y3 i).hi = (gD q.N.g i).hi
 let y5 : List Reach := AD q.N.r.length λ (i : Nat) => gD q.N.r i
 let y6 := y5.length
 let y7 := y6 = q.N.r.length
 let y8 (i : Nat) : Reach := gD y5 i
 let y9 (i : Nat) : Span := (y8 i).sp
 let y10 := ∀ (i : Nat), i < y6 -> (y8 i).fr = (gD q.N.r i).fr /\ (y8 i).to = (gD q.N.r i).to /\ (y9 i).lo = (gD q.N.r i).sp.lo /\ (y9 i).hi = (gD q.N.r i).sp.hi
 let y11 : List Int := AD q.T.f.length λ (i : Nat) => gD q.T.f i
 let y12 := y11.length
 let y13 := y12 = q.T.f.length
 let y14 := ∀ (i : Nat), i < y12 -> gD y11 i = gD q.T.f i
 let y15 : List Int := AD q.T.t.length λ (i : Nat) => gD q.T.t i
 let y16 := y15.length
 let y17 := y16 = q.T.t.length
 let y18 := ∀ (i : Nat), i < y16 -> gD y15 i = gD q.T.t i
 let y19 : NetL := NetL.mk y0 y5
 let y20 : TruthL := TruthL.mk y11 y15
 let y21 := EK y19 y20
 let y22 := (↑(TK y19 y20).length : Int) == 0
 ((y2 /\ y4 /\ y7 /\ y10 /\ y13 /\ y14 /\ y17 /\ y18 /\ (y1 <= 1000000 /\ y6 <= 1000000) /\ y12 <= 1000000 /\ y16 <= 1000000) /\ bif y21
 != 0 then ZF a.N a.T = false /\ EK a.N a.T = y21 else (y22 = true -> y2 /\ y4 /\ y7 /\ y10 /\ y13 /\ y14 /\ y17 /\ y18 /\ y21 = 0) /\ (ZF a.N a.T = bif y22 then
 EW y19 y20 == 0 else false) /\ EK a.N a.T = 0)) := by kernel_rfl
def A22 := ann 23 [(47, C47.spec Yh), (59, C59.spec Yh)]
def V22 (a : NT) : Prop := BC Try.prog A22 Try.f22 (AH Try.f22) (C42.xs a) (AE []) (C42.val a) [] [] []
theorem vc22 (a : NT) : (V22 a) = (let q := a
 let y0 : List Span := AD q.N.g.length λ (i : Nat) => gD q.N.g i
 let y1 := y0.length
 let y2 := y1 = q.N.g.length
 let y3 (i : Nat) : Span := gD y0 i
 let y4 := ∀ (i : Nat), i < y1 -> (y3 i).lo = (gD q.N.g i).lo /\ (y3 i).hi = (gD q.N.g i).hi
 let y5 : List Reach := AD q.N.r.length λ (i : Nat) => gD q.N.r i
 let y6 := y5.length
 let y7 := y6 = q.N.r.length
 let y8 (i : Nat) : Reach := gD y5 i
 let y9 (i : Nat) : Span := (y8 i).sp
 let y10 := ∀ (i : Nat), i < y6 -> (y8 i).fr = (gD q.N.r i).fr /\ (y8 i).to = (gD q.N.r i).to /\ (y9 i).lo = (gD q.N.r i).sp.lo /\ (y9 i).hi = (gD q.N.r i).sp.hi
 let y11 : List Int := AD q.T.f.length λ (i : Nat) => gD q.T.f i
 let y12 := y11.length
 let y13 := y12 = q.T.f.length
 let y14 := ∀ (i : Nat), i < y12 -> gD y11 i = gD q.T.f i
 let y15 : List Int := AD q.T.t.length λ (i : Nat) => gD q.T.t i
 let y16 := y15.length
 let y17 := y16 = q.T.t.length
 let y18 := ∀ (i : Nat), i < y16 -> gD y15 i = gD q.T.t i
 let y19 : NetL := NetL.mk y0 y5
 let y20 : TruthL := TruthL.mk y11 y15
 let y21 := EK y19 y20
 let y22 := RM q.N q.T = 0
 ((y2 /\ y4 /\ y7 /\ y10 /\ y13 /\ y14 /\ y17 /\ y18 /\ (y1 <= 1000000 /\ y6 <= 1000000) /\ y12 <= 1000000 /\ y16 <= 1000000) /\ bif y21
 != 0 then y22 /\ KS a.N a.T = y21 else bif decide ((↑(TK y19 y20).length : Int) > 0) then y22 /\ KS a.N a.T = 7 else (y2 /\ y4 /\ y7 /\ y10 /\ y13 /\ y14 /\
 y17 /\ y18 /\ y21 = 0) /\ RM a.N a.T = EW y19 y20 /\ KS a.N a.T = 0)) := by kernel_rfl
theorem p40 (a : NT) (h1 : QJ a.N) (h2 : Ft a.T) : V40 a := by
 rw [vc40]; (conv => zeta); simp only [CC, eq_self, implies_true, forall_const, DL.d1, DL.d2, DL.d7, DL.d8]
 have hz : (EK a.N a.T != 0) = false -> EK a.N a.T = 0 := λ h => by simpa using h
 have hnz : (EK a.N a.T != 0) = true -> EK a.N a.T ≠ 0 := λ h => by simpa using h
 refine ⟨⟨h1, h2⟩, λ he => ?_, λ he => ?_⟩
 ·unfold ZF; rw [decide_eq_false (hnz he)]; rfl
 ·have ha := hz he
  have hbl : TK a.N a.T = QC a.N a.T := by unfold TK; rw [if_pos ha]
  refine ⟨λ _ => ha, ?_, ha⟩
  rw [hbl]
  unfold ZF; rw [decide_eq_true ha]
  by_cases x : (QC a.N a.T).length = 0 <;> by_cases y : EW a.N a.T = 0 <;> simp [x, y] <;> simp_all
theorem p22 (a : NT) (h1 : QJ a.N) (h2 : Ft a.T) : V22 a := by
 rw [vc22]; (conv => zeta); simp only [CC, eq_self, implies_true, forall_const, DL.d1, DL.d2, DL.d7, DL.d8]
 have hz : (EK a.N a.T != 0) = false -> EK a.N a.T = 0 := λ h => by simpa using h
 have hnz : (EK a.N a.T != 0) = true -> EK a.N a.T ≠ 0 := λ h => by simpa using h
 refine ⟨⟨h1, h2⟩, λ he => ?_, λ he => ?_⟩
 ·have : KS a.N a.T = EK a.N a.T := by unfold KS; rw [if_neg (hnz he)]
  exact ⟨by unfold RM; rw [this, if_neg (hnz he)], this⟩
 ·have ha := hz he
  have hbl : TK a.N a.T = QC a.N a.T := by unfold TK; rw [if_pos ha]
  rw [hbl]
  refine ⟨λ hu => ?_, λ hu => ⟨ha, ?_⟩⟩
  ·have : KS a.N a.T = 7 := by unfold KS; rw [if_pos ha, if_neg (by omega)]
   exact ⟨by unfold RM; rw [this]; rfl, this⟩
  ·have : KS a.N a.T = 0 := by unfold KS; rw [if_pos ha, if_pos (by omega)]
   exact ⟨by unfold RM; rw [if_pos this], this⟩
theorem ok40 : AI Try.prog 40 (C48.spec d48) := HQ C48 (λ _ => A40) [] [] Try.func40 (λ _ => by kernel_rfl) (λ _ => AA ok47 (AA ok59 AF)) (λ a h => p40 a h.1 h.2) (λ _ => IL rfl rfl) _
theorem ok22 : AI Try.prog 22 (C42.spec d42) := HQ C42 (λ _ => A22) [] [] Try.func22 (λ _ => by kernel_rfl) (λ _ => AA ok47 (AA ok59 AF)) (λ a h => p22 a h.1 h.2) (λ _ => IL rfl rfl) _
end Go.Bal
