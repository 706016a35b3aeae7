/- Nets that are made of numbers. -/
import Derived.Test.YtonddbmhljelgaaBalMk3
set_option linter.unusedVariables false
set_option linter.unusedSimpArgs false
namespace Go.Bal
open Go Go.Sym Go.Proofs
structure MS where
 s : Stm
 r : List Reach
 f : List Int
 m : List Int
 deriving Inhabited
def YY (st : Int) (a : MS) : Stm := QA (AM a.s st) 1 (wr (st - 1))
def FI (st : Int) (a : MS) : Int := LZ (YY st a) (-20) 120
def HE (st : Int) (a : MS) : Stm := QA (YY st a) (-20) 120
def GY (st : Int) (a : MS) : Int := AS a.s st
def GX (st : Int) (a : MS) : Int := (wr (AS a.s st + LZ (AM a.s st) 1 (wr (st - 1)))).tmod st
def EF (st : Int) (a : MS) : MS := ⟨AM (AM (HE st a) 9) 9, a.r ++ [⟨GY st a, GX st a, ⟨wr (FI st a - AS (HE st a) 9), wr (FI st a + AS (AM (HE st a) 9) 9)⟩⟩], a.f ++ [FI st a], (a.m.modify (GY st a).toNat λ y => wr (y - FI st a)).modify (GX st a).toNat λ y => wr (y + FI st a)⟩
def PZ : Nat -> Int -> MS -> MS
 | 0, _, a => a
 | k + 1, st, a => PZ k st (EF st a)
structure GS where
 s : Stm
 g : List Span
 t : List Int
 deriving Inhabited
def JV (x : Int) (a : GS) : GS := ⟨AM (AM a.s 9) 9, a.g ++ [⟨wr (x - AS a.s 9), wr (x + AS (AM a.s 9) 9)⟩], a.t ++ [x]⟩
def NL : List Int -> GS -> GS
 | [], a => a
 | x :: l, a => NL l (JV (wr (-x)) a)
def AR (a : SN) : Int := LZ a.s 1 a.n
def Gr (a : SN) : Stm := QA a.s 1 a.n
def Sa (a : SN) : Int := AS (Gr a) 12
def Mq (a : SN) : MS := ⟨AM (Gr a) 12, [], [], List.replicate (AR a).toNat 0⟩
def DZ (a : SN) : MS := if 1 < AR a then PZ (Sa a).toNat (AR a) (Mq a) else Mq a
def Hp (a : SN) : GS := NL (DZ a).m ⟨(DZ a).s, [], []⟩
def EH (a : SN) : NetL := ⟨(Hp a).g, (DZ a).r⟩
def FH (a : SN) : TruthL := ⟨(DZ a).f, (Hp a).t⟩
structure MK where
 a : MS
 k : Nat
 deriving Inhabited
structure GK2 where
 a : GS
 k : Nat
 deriving Inhabited
def XB : HCell := .live (.box [.d HX, .d HX])
def Ql (i : AVal) (j : Nat) (st : Int) : List (Nat × AVal) := [(0, .bptr 100 0), (4, .bptr 201 0), (5, .bptr 202 0), (6, .bptr 203 0), (7, .bptr 204 0), (8, .int st), (9, .own 205 1 0 st.toNat), (j, i)]
def Rx (a : SN) (s : MK) : Prop := (1 <= AR a /\ AR a <= 8) /\ StmB (2000000000 - 10 * (s.k : Int)) s.a.s /\ s.k <= 11 /\ s.a.r.length = s.a.f.length /\ s.a.r.length + s.k <= 11 /\ s.a.m.length = (AR a).toNat /\ (if 1 < AR a then PZ s.k (AR a) s.a else s.a) = DZ a
def Rq (a : SN) (s : GK2) : Prop := (1 <= AR a /\ AR a <= 8) /\ StmB (3000000000 + 10 * (s.k : Int)) s.a.s /\ s.k <= (AR a).toNat /\ s.a.g.length = s.k /\ s.a.t.length = s.k /\ (DZ a).m.length = (AR a).toNat /\ (DZ a).r.length = (DZ a).f.length /\ (DZ a).r.length <= 11 /\ NL ((DZ a).m.drop s.k) s.a = Hp a
def Od (a : SN) (x y : AVal) (s : GK2) : List (Nat × HCell) := [(100, VX s.a.s), (201, XB), (202, XB), (203, .live (.box [x, .d (BS (DZ a).r)])), (204, .live (.box [.d (CV (DZ a).f), y])), (205, UB (AR a).toNat (DZ a).m)]
def Uy (a : SN) (s : Stm) : Prop := (1 <= AR a /\ AR a <= 8) /\ StmB 2000000000 s /\ s = (DZ a).s /\ (DZ a).m.length = (AR a).toNat /\ (DZ a).r.length = (DZ a).f.length /\ (DZ a).r.length <= 11
def Vs (st : Int) : List (Nat × AVal) := [(0, .bptr 100 0), (4, .bptr 201 0), (5, .bptr 202 0), (6, .bptr 203 0), (7, .bptr 204 0), (8, .int st), (9, .own 205 1 0 st.toNat)]
def A29 (a : SN) : Ann := { ann 122 [(33, C33.spec Qf), (43, C43.spec Zb)] with E := [100], mt := λ id => id == 12 || id == 18, cutIn := λ gs id => if id = 14 then some [{ α := Stm, dflt := default, T := λ s => ⟨Vs (AR a), Od a (.d HX) (.d HX) ⟨⟨s, [], []⟩, 0⟩⟩, inv := λ s => Uy a s, meas := λ _ => 0, ffz := [206, 207] }] else none, loops := λ id => if id = 6 then some [{ α := MK, dflt := default, T := λ s => ⟨Ql (.int s.k) 10 (AR a), [(100, VX s.a.s), (201, XB), (202, XB), (203, XB), (204, XB), (205, UB (AR a).toNat s.a.m)]⟩, inv := λ s => Rx a s /\ s.a.r = [] /\ s.a.f = [], meas := λ s => s.k, first := [(201, 1000), (202, 1016), (203, 2000), (204, 3000), (205, 5016)] }, { α := MK, dflt := default, T := λ s => ⟨Ql (.int s.k) 10 (AR a), [(100, VX s.a.s), (201, XB), (202, XB), (203, .live (.box [.d HX, .own 206 4 0 s.a.r.length])), (204, .live (.box [.own 207 1 0 s.a.f.length, .d HX])), (205, UB (AR a).toNat s.a.m), (206, Gs s.a.r), (207, UB s.a.f.length s.a.f)]⟩, inv := λ s => Rx a s, meas := λ s => s.k, again := [(206, 13064), (207, 13144)] }] else if id = 15 then some [{ α := GK2, dflt := default, T := λ s => ⟨Ql (.int s.k) 13 (AR a), Od a (.d HX) (.d HX) s⟩, inv := λ s => Rq a s /\ s.k = 0, meas := λ s => (AR a).toNat - s.k }, { α := GK2, dflt := default, T := λ s => ⟨Ql (.int s.k) 13 (AR a), Od a (.own 208 2 0 s.a.g.length) (.own 209 1 0 s.a.t.length) s ++ [(208, Ok s.a.g.length s.a.g), (209, UB s.a.t.length s.a.t)]⟩, inv := λ s => Rq a s, meas := λ s => (AR a).toNat - s.k, again := [(208, 19192), (209, 19272)] }] else none }
def C29 : Ctr := { α := SN, xs := λ a => [.bptr 100 0, .int a.n], L := λ a => [(100, Ow a.s)], val := λ a => .tup [.d (EZ (EH a)), .d (HZ (FH a))], keep := λ a => [(100, VX (Hp a).s)], pre := λ a => [StmB 1000000000 a.s, 1 <= a.n /\ a.n <= 8] }
def V29 (a : SN) : Prop := BM Try.prog (A29 a) Try.f29 (AJ Try.f29) (C29.xs a) (AE (C29.L a)) (C29.val a) (C29.keep a) [] [208, 209]
theorem Zo (a : SN) : (V29 a) = (let q := a
 let y0 := (1 : Int) = Int.ofNat (1 : Nat)
 let y1 : List Int := AC q.s.bs.length λ (i : Nat) => gD q.s.bs i
 let y2 := y1.length
 let y3 : Stm := Stm.mk y1 q.s.used q.s.mix
 let y4 := LZ y3 (1 : Int) q.n
 let y5 : Stm := QA y3 (1 : Int) q.n
 let y6 : List Int := y5.bs
 let y7 := y6.length
 let y8 (i : Nat) := gD y6 i
 let y9 : List Int := AC y7 λ (i : Nat) => y8 i
 let y10 := y9.length
 let y11 := y5.used
 let y12 := y5.mix
 let y13 := (0 : Nat) = (0 : Nat)
 let y14 := (AR q).toNat = y4.toNat
 let y15 : Stm := Stm.mk y9 y11 y12
 let y16 : Stm := AM y15 (12 : Int)
 let y17 : List Int := y16.bs
 let y18 (i : Nat) (a : MK) := i < a.a.s.bs.length
 let y19 := ∀ (i : Nat), i < (0 : Nat) -> false = false
 let y20 := (1 : Int) <= AR q /\ AR q <= (8 : Int)
 let y21 (a1 : MK) := y20 /\ StmB ((2000000000 : Int) - (10 : Int) * (↑a1.k : Int)) a1.a.s /\ a1.k <= (11 : Nat) /\ a1.a.r.length = a1.a.f.length /\ a1.a.r.length + a1.k <= (11 : Nat) /\ a1.a.m.length = (AR q).toNat /\ (if (1 : Int) < AR q then PZ a1.k (AR q) a1.a else a1.a) = DZ q
 let y22 (a1 : MK) := y21 a1 /\ a1.a.r = [] /\ a1.a.f = []
 let y23 (a : MK) := bif decide ((↑a.k : Int) > (0 : Int)) then decide (AR q > (1 : Int)) else false
 let y24 (a : MK) : List Int := AC a.a.s.bs.length λ (i : Nat) => gD a.a.s.bs i
 let y25 (a : MK) := (y24 a).length
 let y26 (a1 : MK) := AR q = AR q /\ y25 a1 = a1.a.s.bs.length /\ (∀ (i : Nat), i < y25 a1 -> gD (y24 a1) i = gD a1.a.s.bs i) /\ a1.a.s.used = a1.a.s.used /\ a1.a.s.mix = a1.a.s.mix /\ (a1.a.s.used - (0 : Int)).NonNeg
 let y27 := IntKind.i64.wrap (AR q - (1 : Int))
 let y28 (a : MK) : Stm := Stm.mk (y24 a) a.a.s.used a.a.s.mix
 let y29 (a : MK) : Stm := AM (y28 a) (AR q)
 let y30 (a : MK) : List Int := (y29 a).bs
 let y31 (a : MK) := (y30 a).length
 let y32 (a : MK) (i : Nat) := gD (y30 a) i
 let y33 (a : MK) : List Int := AC (y31 a) λ (i : Nat) => y32 a i
 let y34 (a : MK) := (y33 a).length
 let y35 (a : MK) := (y29 a).used
 let y36 (a : MK) := (y29 a).mix
 let y37 (a1 : MK) := y0 /\ y27 = y27 /\ y34 a1 = y31 a1 /\ (∀ (i : Nat), i < y34 a1 -> gD (y33 a1) i = y32 a1 i) /\ y35 a1 = y35 a1 /\ y36 a1 = y36 a1 /\ (0 : Int) <= y35 a1 /\ (AR q = (0 : Int) -> False)
 let y38 (a : MK) : Stm := Stm.mk (y33 a) (y35 a) (y36 a)
 let y39 (a : MK) : Stm := QA (y38 a) (1 : Int) y27
 let y40 (a : MK) : List Int := (y39 a).bs
 let y41 (a : MK) := (y40 a).length
 let y42 (a : MK) (i : Nat) := gD (y40 a) i
 let y43 (a : MK) : List Int := AC (y41 a) λ (i : Nat) => y42 a i
 let y44 (a : MK) := (y43 a).length
 let y45 (a : MK) := (y39 a).used
 let y46 (a : MK) := (y39 a).mix
 let y47 (a : MK) := (-20 : Int) = Int.negSucc (19 : Nat) /\ (120 : Int) = Int.ofNat (120 : Nat) /\ y44 a = y41 a /\ (∀ (i : Nat), i < y44 a -> gD (y43 a) i = y42 a i) /\ y45 a = y45 a /\ y46 a = y46 a /\ (y45 a - (0 : Int)).NonNeg
 let y48 := (9 : Int) = Int.ofNat (9 : Nat)
 let y49 (a : MK) : Stm := Stm.mk (y43 a) (y45 a) (y46 a)
 let y50 (a : MK) : Stm := QA (y49 a) (-20 : Int) (120 : Int)
 let y51 (a : MK) : List Int := (y50 a).bs
 let y52 (a : MK) := (y51 a).length
 let y53 (a : MK) (i : Nat) := gD (y51 a) i
 let y54 (a : MK) : List Int := AC (y52 a) λ (i : Nat) => y53 a i
 let y55 (a : MK) := (y54 a).length
 let y56 (a : MK) := (y50 a).used
 let y57 (a : MK) := (y50 a).mix
 let y58 (a : MK) : Stm := Stm.mk (y54 a) (y56 a) (y57 a)
 let y59 (a : MK) : Stm := AM (y58 a) (9 : Int)
 let y60 (a : MK) : List Int := (y59 a).bs
 let y61 (a : MK) := (y60 a).length
 let y62 (a : MK) (i : Nat) := gD (y60 a) i
 let y63 (a : MK) : List Int := AC (y61 a) λ (i : Nat) => y62 a i
 let y64 (a : MK) := (y63 a).length
 let y65 (a : MK) := (y59 a).used
 let y66 (a : MK) := (y59 a).mix
 let y67 (a : MK) := y48 /\ y55 a = y52 a /\ (∀ (i : Nat), i < y55 a -> gD (y54 a) i = y53 a i) /\ y56 a = y56 a /\ y57 a = y57 a /\ (0 : Int) <= y56 a /\ y48 /\ y64 a = y61 a /\ (∀ (i : Nat), i < y64 a -> gD (y63 a) i = y62 a i) /\ y65 a = y65 a /\ y66 a = y66 a /\ (y65 a - (0 : Int)).NonNeg
 let y68 := (0 : Nat) < (0 : Nat)
 let y69 := (1 : Nat) <= (1 : Nat)
 let y70 := (0 : Nat) < (1 : Nat)
 let y71 := (4 : Nat) = (4 : Nat)
 let y72 := y69 /\ (y70 -> y71)
 let y73 := true = true -> y70
 let y74 := (1 : Nat) <= (9223372036854775807 : Nat)
 let y75 := (1 : Nat) = (1 : Nat)
 let y76 := y69 /\ (y70 -> y75)
 let y77 := (True /\ (y68 -> (0 : Nat) = (1 : Nat))) /\ y76 /\ y73 /\ y74 /\ (8 : Nat) <= (140737488355328 : Nat)
 let y78 (a : MK) := AS (y28 a) (AR q)
 let y79 (a : MK) := (0 : Int) <= y78 a /\ y78 a < (↑(AR q).toNat : Int)
 let y80 (a : MK) := (0 : Nat) + (y78 a).toNat
 let y81 (a : MK) := y80 a < (AR q).toNat
 let y82 (a : MK) := (IntKind.i64.wrap (y78 a + LZ (y38 a) (1 : Int) y27)).tmod (AR q)
 let y83 (a : MK) := (0 : Int) <= y82 a /\ y82 a < (↑(AR q).toNat : Int)
 let y84 (a : MK) := (0 : Nat) + (y82 a).toNat
 let y85 (a : MK) := y79 a /\ y81 a /\ y83 a /\ y84 a < (AR q).toNat /\ y79 a /\ y81 a /\ y83 a /\ (y84 a).succ.le (AR q).toNat
 let y86 (a : MK) (a1 : MK) := (↑a.k : Int) = IntKind.i64.wrap ((↑a1.k : Int) - (1 : Int))
 let y87 (a : MK) : Stm := Stm.mk (y63 a) (y65 a) (y66 a)
 let y88 (a : MK) : Stm := AM (y87 a) (9 : Int)
 let y89 (a : MK) : List Int := (y88 a).bs
 let y90 (a : MK) (a1 : MK) := a.a.s.bs.length = (y89 a1).length
 let y91 (a : MK) (a1 : MK) := ∀ (i : Nat), y18 i a -> gD a.a.s.bs i = gD (y89 a1) i
 let y92 (a : MK) (a1 : MK) := a.a.s.used = (y88 a1).used
 let y93 (a : MK) (a1 : MK) := a.a.s.mix = (y88 a1).mix
 let y94 (a : MK) := a.a.r.length = (1 : Nat)
 let y95 (a : MK) := a.a.f.length = (1 : Nat)
 let y96 (a : MK) := LZ (y49 a) (-20 : Int) (120 : Int)
 let y97 (a1 : MK) (a2 : MK) := ∀ (i : Nat), i < (AR q).toNat -> gD a1.a.m i = bif decide (i = y84 a2) then IntKind.i64.wrap (gD a2.a.m (y84 a2) + y96 a2) else bif decide (i = y80 a2) then IntKind.i64.wrap (gD a2.a.m (y80 a2) - y96 a2) else gD a2.a.m i
 let y98 (a : MK) := IntKind.i64.wrap (y96 a - AS (y58 a) (9 : Int))
 let y99 (a : MK) := IntKind.i64.wrap (y96 a + AS (y87 a) (9 : Int))
 let y100 (a1 : MK) (a2 : MK) := y21 a1 /\ a1.k < a2.k
 let y101 (a : Stm) (a1 : MK) := a.bs.length = a1.a.s.bs.length
 let y102 (a : Stm) (a1 : MK) := ∀ (i : Nat), i < a.bs.length -> gD a.bs i = gD a1.a.s.bs i
 let y103 := (DZ q).r.length = (0 : Nat)
 let y104 := (DZ q).f.length = (0 : Nat)
 let y105 (a1 : MK) := y13 /\ y19 /\ (AR q).toNat = (AR q).toNat /\ ∀ (i : Nat), i < (AR q).toNat -> gD (DZ q).m i = gD a1.a.m i
 let y106 := (DZ q).m.length = (AR q).toNat
 let y107 := (DZ q).r.length = (DZ q).f.length
 let y108 := (DZ q).r.length <= (11 : Nat)
 let y109 (a1 : Stm) := y20 /\ StmB (2000000000 : Int) a1 /\ a1 = (DZ q).s /\ y106 /\ y107 /\ y108
 let y110 := false = true -> y70
 let y111 (a : MK) := a.a.r.length + (1 : Nat)
 let y112 (a : MK) := a.a.f.length + (1 : Nat)
 let y113 (a : MK) (a1 : MK) := a.a.r.length = y111 a1
 let y114 (a : MK) (a1 : MK) := a.a.f.length = y112 a1
 let y115 (i : Nat) (a : MK) := decide (i < a.a.r.length)
 let y116 (j : Nat) := (0 : Nat) + j
 let y117 (a : MK) (j : Nat) : Reach := gD a.a.r (y116 j)
 let y118 (a : MK) (j : Nat) : Span := (y117 a j).sp
 let y119 (i : Nat) (a : GK2) := i < a.a.s.bs.length
 let y120 := (DZ q).r.length = (DZ q).r.length
 let y121 := ∀ (i : Nat), i < (DZ q).r.length -> (gD (DZ q).r i).fr = (gD (DZ q).r i).fr /\ (gD (DZ q).r i).to = (gD (DZ q).r i).to /\ (gD (DZ q).r i).sp.lo = (gD (DZ q).r i).sp.lo /\ (gD (DZ q).r i).sp.hi = (gD (DZ q).r i).sp.hi
 let y122 := (DZ q).f.length = (DZ q).f.length
 let y123 := ∀ (i : Nat), i < (DZ q).f.length -> gD (DZ q).f i = gD (DZ q).f i
 let y124 := ∀ (i : Nat), i < (AR q).toNat -> gD (DZ q).m i = gD (DZ q).m i
 let y125 (a1 : GK2) := y20 /\ StmB ((3000000000 : Int) + (10 : Int) * (↑a1.k : Int)) a1.a.s /\ a1.k <= (AR q).toNat /\ a1.a.g.length = a1.k /\ a1.a.t.length = a1.k /\ y106 /\ y107 /\ y108 /\ NL (List.drop a1.k (DZ q).m) a1.a = Hp q
 let y126 (a1 : GK2) := y125 a1 /\ a1.k = (0 : Nat)
 let y127 (a : GK2) := decide ((↑a.k : Int) < AR q)
 let y128 (a : GK2) := (0 : Nat) + a.k
 let y129 (a : GK2) := ((0 : Int) <= (↑a.k : Int) /\ (↑a.k : Int) < (↑(AR q).toNat : Int)) /\ (y128 a).succ.le (AR q).toNat
 let y130 (a : GK2) : List Int := AC a.a.s.bs.length λ (i : Nat) => gD a.a.s.bs i
 let y131 (a : GK2) := (y130 a).length
 let y132 (a : GK2) := y131 a = a.a.s.bs.length
 let y133 (a : GK2) := ∀ (i : Nat), i < y131 a -> gD (y130 a) i = gD a.a.s.bs i
 let y134 (a : GK2) := a.a.s.used = a.a.s.used
 let y135 (a : GK2) := a.a.s.mix = a.a.s.mix
 let y136 (a : GK2) := (0 : Int) <= a.a.s.used
 let y137 (a : GK2) : Stm := Stm.mk (y130 a) a.a.s.used a.a.s.mix
 let y138 (a : GK2) : Stm := AM (y137 a) (9 : Int)
 let y139 (a : GK2) : List Int := (y138 a).bs
 let y140 (a : GK2) := (y139 a).length
 let y141 (a : GK2) (i : Nat) := gD (y139 a) i
 let y142 (a : GK2) : List Int := AC (y140 a) λ (i : Nat) => y141 a i
 let y143 (a : GK2) := (y142 a).length
 let y144 (a : GK2) := y143 a = y140 a
 let y145 (a : GK2) := ∀ (i : Nat), i < y143 a -> gD (y142 a) i = y141 a i
 let y146 (a : GK2) := (y138 a).used
 let y147 (a : GK2) := y146 a = y146 a
 let y148 (a : GK2) := (y138 a).mix
 let y149 (a : GK2) := y148 a = y148 a
 let y150 (a : GK2) := (0 : Int) <= y146 a
 let y151 := (2 : Nat) = (2 : Nat)
 let y152 := y69 /\ (y70 -> y151)
 let y153 (a : GK2) (a1 : GK2) := (↑a.k : Int) = IntKind.i64.wrap ((↑a1.k : Int) + (1 : Int))
 let y154 (a : GK2) : Stm := Stm.mk (y142 a) (y146 a) (y148 a)
 let y155 (a : GK2) : Stm := AM (y154 a) (9 : Int)
 let y156 (a : GK2) : List Int := (y155 a).bs
 let y157 (a : GK2) (a1 : GK2) := a.a.s.bs.length = (y156 a1).length
 let y158 (a : GK2) (a1 : GK2) := ∀ (i : Nat), y119 i a -> gD a.a.s.bs i = gD (y156 a1) i
 let y159 (a : GK2) (a1 : GK2) := a.a.s.used = (y155 a1).used
 let y160 (a : GK2) (a1 : GK2) := a.a.s.mix = (y155 a1).mix
 let y161 (a : GK2) := a.a.g.length = (1 : Nat)
 let y162 (a : GK2) := a.a.t.length = (1 : Nat)
 let y163 (a1 : GK2) := IntKind.i64.wrap ((0 : Int) - gD (DZ q).m (y128 a1))
 let y164 (a1 : GK2) := IntKind.i64.wrap (y163 a1 - AS (y137 a1) (9 : Int))
 let y165 (a1 : GK2) := IntKind.i64.wrap (y163 a1 + AS (y154 a1) (9 : Int))
 let y166 (a1 : GK2) := (AR q).toNat - a1.k
 let y167 (a1 : GK2) (a2 : GK2) := y125 a1 /\ y166 a1 < y166 a2
 let y168 := (EH q).g.length = (0 : Nat)
 let y169 := (EH q).r.length = (DZ q).r.length
 let y170 := ∀ (i : Nat), i < (EH q).r.length -> (gD (EH q).r i).fr = (gD (DZ q).r i).fr /\ (gD (EH q).r i).to = (gD (DZ q).r i).to /\ (gD (EH q).r i).sp.lo = (gD (DZ q).r i).sp.lo /\ (gD (EH q).r i).sp.hi = (gD (DZ q).r i).sp.hi
 let y171 := (FH q).f.length = (DZ q).f.length
 let y172 := ∀ (i : Nat), i < (FH q).f.length -> gD (FH q).f i = gD (DZ q).f i
 let y173 := (FH q).t.length = (0 : Nat)
 let y174 (a1 : GK2) := (Hp q).s.bs.length = a1.a.s.bs.length /\ (∀ (i : Nat), i < (Hp q).s.bs.length -> gD (Hp q).s.bs i = gD a1.a.s.bs i) /\ (Hp q).s.used = a1.a.s.used /\ (Hp q).s.mix = a1.a.s.mix
 let y175 (a : GK2) := a.a.g.length + (1 : Nat)
 let y176 (a : GK2) := a.a.t.length + (1 : Nat)
 let y177 (a : GK2) (a1 : GK2) := a.a.g.length = y175 a1
 let y178 (a : GK2) (a1 : GK2) := a.a.t.length = y176 a1
 let y179 (i : Nat) (a : GK2) := decide (i < a.a.g.length)
 let y180 (a : GK2) (j : Nat) : Span := gD a.a.g (y116 j)
 ((y0 /\ a.n = a.n /\ y2 = a.s.bs.length /\ (∀ (i : Nat), i < y2 -> gD y1 i = gD a.s.bs i) /\ a.s.used = a.s.used /\ a.s.mix = a.s.mix /\ (a.s.used - (0 : Int)).NonNeg) /\ ((0
 : Int) <= y4 /\ y4 = y4 /\ y4 <= (9223372036854775807 : Int) /\ (↑(8 : Nat) : Int) * y4 <= (281474976710656 : Int)) /\ (((12 : Int) = Int.ofNat (12 : Nat) /\ y10 = y7 /\ (∀ (i : Nat), i < y10 -> gD y9 i = y8 i) /\ y11 = y11 /\ y12 = y12 /\ (y11 - (0 : Int)).NonNeg) /\ (∃ (a_1 : MK), (AR a = y4 /\ y13 /\ y14 /\ (↑a_1.k : Int) = AS y15 (12 : Int) /\
 a_1.a.s.bs.length = y17.length /\ (∀ (i : Nat), y18 i a_1 -> gD a_1.a.s.bs i = gD y17 i) /\ a_1.a.s.used = y16.used /\ a_1.a.s.mix = y16.mix /\ y13 /\ y19 /\ y13 /\ y19 /\ y13 /\
 y19 /\ y13 /\ y19 /\ y13 /\ y19 /\ y13 /\ y19 /\ y13 /\ y19 /\ y13 /\ y19 /\ y14 /\ ∀ (i : Nat), i < (AR a).toNat -> gD a_1.a.m i = (0 : Int)) /\ y22 a_1) /\ (∀ (a_1 : MK), y22 a_1 ->
 bif y23 a_1 then y26 a_1 /\ y37 a_1 /\ y47 a_1 /\ y67 a_1 /\ (((True /\ (y68 -> (0 : Nat) = (4 : Nat))) /\ y72 /\ y73 /\ y74 /\ (32 : Nat) <= (140737488355328 : Nat)) /\ y77) /\ y85 a_1 /\
 ∃ (a_3 : MK), (AR a = AR a /\ y13 /\ (AR a).toNat = (AR a).toNat /\ y86 a_3 a_1 /\ y90 a_3 a_1 /\ y91 a_3 a_1 /\ y92 a_3 a_1 /\ y93 a_3 a_1 /\ y13 /\ y19 /\ y13 /\ y19 /\ y13 /\ y19
 /\ y13 /\ y19 /\ y13 /\ y19 /\ y13 /\ y94 a_3 /\ y13 /\ y95 a_3 /\ y13 /\ y19 /\ (AR a).toNat = (AR a).toNat /\ y97 a_3 a_1 /\ y94 a_3 /\ (∀ (i : Nat), i < a_3.a.r.length -> (gD a_3.a.r i).fr =
 y78 a_1 /\ (gD a_3.a.r i).to = y82 a_1 /\ (gD a_3.a.r i).sp.lo = y98 a_1 /\ (gD a_3.a.r i).sp.hi = y99 a_1) /\ y95 a_3 /\ ∀ (i : Nat), i < a_3.a.f.length -> gD a_3.a.f i = y96 a_1) /\ y100 a_3 a_1 else ∃ (a_3 : Stm), (AR a = AR a /\ y13 /\ (AR a).toNat = (AR a).toNat /\ y101 a_3 a_1 /\ y102 a_3 a_1 /\ a_3.used = a_1.a.s.used /\ a_3.mix = a_1.a.s.mix /\ y13 /\ y19 /\ y13 /\ y19 /\ y13 /\
 y19 /\ y13 /\ y19 /\ y13 /\ y19 /\ y103 /\ y103 /\ y104 /\ y104 /\ y105 a_1) /\ y109 a_3) /\ ∀ (a_1 : MK), y21 a_1 -> bif y23 a_1 then y26 a_1 /\ y37 a_1 /\ y47 a_1
 /\ y67 a_1 /\ (((a_1.a.r.length = a_1.a.r.length /\ ((0 : Nat) < a_1.a.r.length -> y71)) /\ y72 /\ y110 /\ y111 a_1 <= (9223372036854775807 : Nat) /\ y111 a_1 * (32 : Nat) <= (140737488355328 : Nat)) /\
 (a_1.a.f.length = a_1.a.f.length /\ ((0 : Nat) < a_1.a.f.length -> y75)) /\ y76 /\ y110 /\ y112 a_1 <= (9223372036854775807 : Nat) /\ y112 a_1 * (8 : Nat) <= (140737488355328 : Nat)) /\ y85 a_1 /\ ∃ (a_3 : MK),
 (AR a = AR a /\ y13 /\ (AR a).toNat = (AR a).toNat /\ y86 a_3 a_1 /\ y90 a_3 a_1 /\ y91 a_3 a_1 /\ y92 a_3 a_1 /\ y93 a_3 a_1 /\ y13 /\ y19 /\ y13 /\ y19 /\ y13 /\ y19 /\ y13 /\
 y19 /\ y13 /\ y19 /\ y13 /\ y113 a_3 a_1 /\ y13 /\ y114 a_3 a_1 /\ y13 /\ y19 /\ (AR a).toNat = (AR a).toNat /\ y97 a_3 a_1 /\ y113 a_3 a_1 /\ (∀ (i : Nat), i < a_3.a.r.length -> ((gD a_3.a.r
 i).fr = bif y115 i a_1 then (gD a_1.a.r i).fr else y78 a_1) /\ ((gD a_3.a.r i).to = bif y115 i a_1 then (gD a_1.a.r i).to else y82 a_1) /\ ((gD a_3.a.r i).sp.lo = bif y115 i a_1 then (gD a_1.a.r i).sp.lo
 else y98 a_1) /\ (gD a_3.a.r i).sp.hi = bif y115 i a_1 then (gD a_1.a.r i).sp.hi else y99 a_1) /\ y114 a_3 a_1 /\ ∀ (i : Nat), i < a_3.a.f.length -> gD a_3.a.f i = bif decide (i < a_1.a.f.length) then gD
 a_1.a.f i else y96 a_1) /\ y100 a_3 a_1 else ∃ (a_3 : Stm), (AR a = AR a /\ y13 /\ (AR a).toNat = (AR a).toNat /\ y101 a_3 a_1 /\ y102 a_3 a_1 /\ a_3.used = a_1.a.s.used /\ a_3.mix = a_1.a.s.mix /\
 y13 /\ y19 /\ y13 /\ y19 /\ y13 /\ y19 /\ y13 /\ y19 /\ y13 /\ y19 /\ (DZ a).r.length = a_1.a.r.length /\ (0 : Nat) + a_1.a.r.length <= a_1.a.r.length /\ (∀ (j : Nat), j < (DZ a).r.length -> (gD (DZ
 a).r j).fr = (y117 a_1 j).fr /\ (gD (DZ a).r j).to = (y117 a_1 j).to /\ (gD (DZ a).r j).sp.lo = (y118 a_1 j).lo /\ (gD (DZ a).r j).sp.hi = (y118 a_1 j).hi) /\ (DZ a).f.length = a_1.a.f.length /\ (0 : Nat) +
 a_1.a.f.length <= a_1.a.f.length /\ (∀ (j : Nat), j < (DZ a).f.length -> gD (DZ a).f j = gD a_1.a.f (y116 j)) /\ y105 a_1) /\ y109 a_3) /\ ∀ (a_1 : Stm), y109 a_1 -> (∃ (a_3 : GK2), (AR a = AR a /\ y13
 /\ (AR a).toNat = (AR a).toNat /\ (↑a_3.k : Int) = (0 : Int) /\ a_3.a.s.bs.length = a_1.bs.length /\ (∀ (i : Nat), y119 i a_3 -> gD a_3.a.s.bs i = gD a_1.bs i) /\ a_3.a.s.used = a_1.used /\ a_3.a.s.mix = a_1.mix /\ y13
 /\ y19 /\ y13 /\ y19 /\ y13 /\ y19 /\ y13 /\ y19 /\ y13 /\ y19 /\ y120 /\ y121 /\ y122 /\ y123 /\ y13 /\ y19 /\ (AR a).toNat = (AR a).toNat /\ y124) /\ y126 a_3) /\ (∀ (a_3
 : GK2), y126 a_3 -> bif y127 a_3 then y129 a_3 /\ (y48 /\ y132 a_3 /\ y133 a_3 /\ y134 a_3 /\ y135 a_3 /\ y136 a_3 /\ y48 /\ y144 a_3 /\ y145 a_3 /\ y147 a_3 /\ y149 a_3 /\ y150 a_3
 /\ ((True /\ (y68 -> (0 : Nat) = (2 : Nat))) /\ y152 /\ y73 /\ y74 /\ (16 : Nat) <= (140737488355328 : Nat)) /\ y77) /\ ∃ (a_5 : GK2), (AR a = AR a /\ y13 /\ (AR a).toNat = (AR a).toNat /\ y153 a_5 a_3 /\
 y157 a_5 a_3 /\ y158 a_5 a_3 /\ y159 a_5 a_3 /\ y160 a_5 a_3 /\ y13 /\ y19 /\ y13 /\ y19 /\ y13 /\ y19 /\ y13 /\ y19 /\ y13 /\ y161 a_5 /\ y120 /\ y121 /\ y122 /\ y123 /\
 y13 /\ y162 a_5 /\ (AR a).toNat = (AR a).toNat /\ y124 /\ y161 a_5 /\ (∀ (i : Nat), i < a_5.a.g.length -> (gD a_5.a.g i).lo = y164 a_3 /\ (gD a_5.a.g i).hi = y165 a_3) /\ y162 a_5 /\ ∀ (i : Nat), i
 < a_5.a.t.length -> gD a_5.a.t i = y163 a_3) /\ y167 a_5 a_3 else y168 /\ y168 /\ y169 /\ y170 /\ y171 /\ y172 /\ y173 /\ y173 /\ y174 a_3) /\ ∀ (a_3 : GK2), y125 a_3 ->
 bif y127 a_3 then y129 a_3 /\ (y48 /\ y132 a_3 /\ y133 a_3 /\ y134 a_3 /\ y135 a_3 /\ y136 a_3 /\ y48 /\ y144 a_3 /\ y145 a_3 /\ y147 a_3 /\ y149 a_3 /\ y150 a_3 /\ ((a_3.a.g.length =
 a_3.a.g.length /\ ((0 : Nat) < a_3.a.g.length -> y151)) /\ y152 /\ y110 /\ y175 a_3 <= (9223372036854775807 : Nat) /\ y175 a_3 * (16 : Nat) <= (140737488355328 : Nat)) /\ (a_3.a.t.length = a_3.a.t.length /\ ((0 :
 Nat) < a_3.a.t.length -> y75)) /\ y76 /\ y110 /\ y176 a_3 <= (9223372036854775807 : Nat) /\ y176 a_3 * (8 : Nat) <= (140737488355328 : Nat)) /\ ∃ (a_5 : GK2), (AR a = AR a /\ y13 /\ (AR a).toNat = (AR
 a).toNat /\ y153 a_5 a_3 /\ y157 a_5 a_3 /\ y158 a_5 a_3 /\ y159 a_5 a_3 /\ y160 a_5 a_3 /\ y13 /\ y19 /\ y13 /\ y19 /\ y13 /\ y19 /\ y13 /\ y19 /\ y13 /\ y177 a_5 a_3 /\ y120 /\ y121 /\ y122 /\ y123 /\ y13 /\ y178 a_5 a_3 /\ (AR a).toNat = (AR a).toNat /\ y124 /\ y177 a_5 a_3 /\ (∀ (i : Nat), i < a_5.a.g.length -> ((gD a_5.a.g i).lo = bif y179 i a_3 then (gD a_3.a.g i).lo else
 y164 a_3) /\ (gD a_5.a.g i).hi = bif y179 i a_3 then (gD a_3.a.g i).hi else y165 a_3) /\ y178 a_5 a_3 /\ ∀ (i : Nat), i < a_5.a.t.length -> gD a_5.a.t i = bif decide (i < a_3.a.t.length) then gD a_3.a.t i
 else y163 a_3) /\ y167 a_5 a_3 else (EH a).g.length = a_3.a.g.length /\ (0 : Nat) + a_3.a.g.length <= a_3.a.g.length /\ (∀ (j : Nat), j < (EH a).g.length -> (gD (EH a).g j).lo = (y180 a_3 j).lo /\ (gD
 (EH a).g j).hi = (y180 a_3 j).hi) /\ y169 /\ y170 /\ y171 /\ y172 /\ (FH a).t.length = a_3.a.t.length /\ (0 : Nat) + a_3.a.t.length <= a_3.a.t.length /\ (∀ (j : Nat), j < (FH a).t.length -> gD
 (FH a).t j = gD a_3.a.t (y116 j)) /\ y174 a_3)) := by kernel_rfl
theorem md1 (a : SN) : LZ a.s 1 a.n = AR a := rfl
theorem md2 (a : SN) : QA a.s 1 a.n = Gr a := rfl
theorem md3 (a : SN) : AS (Gr a) 12 = Sa a := rfl
theorem md4 (st : Int) (a : MS) : QA (AM a.s st) 1 (IntKind.i64.wrap (st - 1)) = YY st a := rfl
theorem md5 (st : Int) (a : MS) : QA (YY st a) (-20) 120 = HE st a := rfl
theorem md6 (st : Int) (a : MS) : LZ (YY st a) (-20) 120 = FI st a := rfl
theorem md7 (st : Int) (a : MS) : AS a.s st = GY st a := rfl
theorem md8 (st : Int) (a : MS) : (IntKind.i64.wrap (GY st a + LZ (AM a.s st) 1 (IntKind.i64.wrap (st - 1)))).tmod st = GX st a := rfl
theorem md9 (st : Int) (a : MS) : AM (AM (HE st a) 9) 9 = (EF st a).s := by simp only [EF]
structure Mx (st : Int) (K : Int) (a : MS) : Prop where
 s0 : StmB (K + 1) (AM a.s st)
 x : StmB (K + 2) (YY st a)
 y : StmB (K + 3) (HE st a)
 z : StmB (K + 4) (AM (HE st a) 9)
 s : StmB (K + 5) (EF st a).s
 fr : 0 <= GY st a /\ GY st a < st
 to : 0 <= GX st a /\ GX st a < st
 ne : GY st a ≠ GX st a
 v : -20 <= FI st a /\ FI st a <= 120
 lo : 0 <= AS (HE st a) 9 /\ AS (HE st a) 9 < 9
 hi : 0 <= AS (AM (HE st a) 9) 9 /\ AS (AM (HE st a) 9) 9 < 9
theorem UV {st K : Int} (hst : 2 <= st /\ st <= 8) {a : MS} (h : StmB K a.s) (hK : K <= 100000000000000) : Mx st K a := by
 have s0 := h.next (by omega) st
 have ew : wr (st - 1) = st - 1 := OT (by omega) (by omega)
 have x : StmB (K + 2) (YY st a) := (s0.next (by omega) (Br 1 (wr (st - 1)))).mono (by omega)
 have y : StmB (K + 3) (HE st a) := (x.next (by omega) (Br (-20) 120)).mono (by omega)
 have z : StmB (K + 4) (AM (HE st a) 9) := (y.next (by omega) 9).mono (by omega)
 have s : StmB (K + 5) (EF st a).s := (z.next (by omega) 9).mono (by omega)
 have f := EQ h (by omega) st
 have fr : 0 <= GY st a /\ GY st a < st := ⟨f.1, f.2 (by omega)⟩
 have w := TW s0 (by omega) (lo := 1) (hi := wr (st - 1)) (by omega) (by omega) (by omega)
 rw [ew] at w
 have e : wr (AS a.s st + LZ (AM a.s st) 1 (st - 1)) = AS a.s st + LZ (AM a.s st) 1 (st - 1) := OT (by omega) (by omega)
 have et : GX st a = (AS a.s st + LZ (AM a.s st) 1 (st - 1)) % st := by
  unfold GX; rw [ew, e, Int.tmod_eq_emod_of_nonneg (by omega)]
 have to : 0 <= GX st a /\ GX st a < st := by rw [et]; exact ⟨Int.emod_nonneg _ (by omega), Int.emod_lt_of_pos _ (by omega)⟩
 refine ⟨s0, x, y, z, s, fr, to, ?_, TW x (by omega) (by omega) (by omega) (by omega), ?_, ?_⟩
 ·rw [et]
  unfold GY
  intro he
  by_cases hlt : AS a.s st + LZ (AM a.s st) 1 (st - 1) < st
  ·rw [Int.emod_eq_of_lt (by omega) hlt] at he; omega
  ·rw [<- Int.sub_emod_right, Int.emod_eq_of_lt (by omega) (by omega)] at he; omega
 ·have := EQ y (by omega) 9; exact ⟨this.1, this.2 (by omega)⟩
 ·have := EQ z (by omega) 9; exact ⟨this.1, this.2 (by omega)⟩
theorem Ed (st : Int) (a : MS) : (EF st a).r.length = a.r.length + 1 /\ (EF st a).f.length = a.f.length + 1 /\ (EF st a).m.length = a.m.length := by simp [EF]
theorem Qp (st : Int) (a : MS) {i : Nat} (hi : i < a.r.length + 1) : (gD (EF st a).r i).fr = (bif decide (i < a.r.length) then (gD a.r i).fr else GY st a) /\ (gD (EF st a).r i).to = (bif decide (i < a.r.length) then (gD a.r i).to else GX st a) /\ (gD (EF st a).r i).sp.lo = (bif decide (i < a.r.length) then (gD a.r i).sp.lo else wr (FI st a - AS (HE st a) 9)) /\ (gD (EF st a).r i).sp.hi = (bif decide (i < a.r.length) then (gD a.r i).sp.hi else wr (FI st a + AS (AM (HE st a) 9) 9)) := by
 have e : (EF st a).r = a.r ++ [⟨GY st a, GX st a, ⟨wr (FI st a - AS (HE st a) 9), wr (FI st a + AS (AM (HE st a) 9) 9)⟩⟩] := by simp only [EF]
 rw [e, CA]
 by_cases h : i < a.r.length
 ·simp [h]
 ·have : i - a.r.length = 0 := by omega
  simp only [h, if_false, decide_false, cond_false, this]
  exact ⟨rfl, rfl, rfl, rfl⟩
theorem Qt (st : Int) (a : MS) {i : Nat} (hi : i < a.f.length + 1) : gD (EF st a).f i = bif decide (i < a.f.length) then gD a.f i else FI st a := by
 have e : (EF st a).f = a.f ++ [FI st a] := by simp only [EF]
 rw [e, CA]
 by_cases h : i < a.f.length
 ·simp [h]
 ·have : i - a.f.length = 0 := by omega
  simp only [h, if_false, decide_false, cond_false, this]; rfl
theorem Ug {st : Int} {a : MS} (hf : (GY st a).toNat < a.m.length) (ht : (GX st a).toNat < a.m.length) (hne : (GX st a).toNat ≠ (GY st a).toNat) (i : Nat) : gD (EF st a).m i = bif decide (i = (GX st a).toNat) then wr (gD a.m (GX st a).toNat + FI st a) else bif decide (i = (GY st a).toNat) then wr (gD a.m (GY st a).toNat - FI st a) else gD a.m i := by
 have e : (EF st a).m = (a.m.modify (GY st a).toNat λ y => wr (y - FI st a)).modify (GX st a).toNat λ y => wr (y + FI st a) := by simp only [EF]
 rw [e, BR (by rw [List.length_modify]; exact ht), BR hf, BR hf, if_neg hne]
 by_cases h1 : i = (GX st a).toNat
 ·simp [h1]
 ·by_cases h2 : i = (GY st a).toNat
  ·simp [h1, h2]
  ·simp [h1, h2]
theorem Hy (x : Int) (a : GS) : (JV x a).g.length = a.g.length + 1 /\ (JV x a).t.length = a.t.length + 1 := by simp [JV]
theorem Uf (x : Int) (a : GS) {i : Nat} (hi : i < a.g.length + 1) : (gD (JV x a).g i).lo = (bif decide (i < a.g.length) then (gD a.g i).lo else wr (x - AS a.s 9)) /\ (gD (JV x a).g i).hi = (bif decide (i < a.g.length) then (gD a.g i).hi else wr (x + AS (AM a.s 9) 9)) := by
 have e : (JV x a).g = a.g ++ [⟨wr (x - AS a.s 9), wr (x + AS (AM a.s 9) 9)⟩] := by simp only [JV]
 rw [e, CA]
 by_cases h : i < a.g.length
 ·simp [h]
 ·have : i - a.g.length = 0 := by omega
  simp only [h, if_false, decide_false, cond_false, this]
  exact ⟨rfl, rfl⟩
theorem Ti (x : Int) (a : GS) {i : Nat} (hi : i < a.t.length + 1) : gD (JV x a).t i = bif decide (i < a.t.length) then gD a.t i else x := by
 have e : (JV x a).t = a.t ++ [x] := by simp only [JV]
 rw [e, CA]
 by_cases h : i < a.t.length
 ·simp [h]
 ·have : i - a.t.length = 0 := by omega
  simp only [h, if_false, decide_false, cond_false, this]; rfl
theorem YM (x : Int) (a : GS) : (JV x a).s = AM (AM a.s 9) 9 := by simp only [JV]
theorem Si {a b : Bool} : (bif a then b else false) = true ↔ a = true /\ b = true := by cases a <;> simp
theorem p29 (a : SN) (h1 : StmB 1000000000 a.s) (h2 : 1 <= a.n /\ a.n <= 8) : V29 a := by
 have hst : 1 <= AR a /\ AR a <= 8 := by
  have := TW h1 (by omega) (lo := 1) (hi := a.n) (by omega) h2.1 (by omega)
  exact ⟨this.1, by show LZ _ _ _ <= _; omega⟩
 have hs1 : StmB 1000000001 (Gr a) := (h1.next (by omega) (Br 1 a.n)).mono (by omega)
 have hI := EQ hs1 (by omega) 12
 have hI1 : 0 <= Sa a := hI.1
 have hI2 : Sa a < 12 := hI.2 (by omega)
 have hs2 : StmB 1000000002 (AM (Gr a) 12) := (hs1.next (by omega) 12).mono (by omega)
 rw [Zo]; (conv => zeta); simp only [CC, eq_self, implies_true, forall_const, DL.m2, md1, md2, md3, md4, md5, md6, md7, md8, md9]
 have hz : (Mq a).m.length = (AR a).toNat := by simp [Mq]
 refine ⟨⟨rfl, h1.used.1⟩, ⟨by omega, by omega, by omega⟩, ⟨⟨rfl, hs1.used.1⟩, ⟨⟨Mq a, (Sa a).toNat⟩, ⟨by simp only; omega, rfl, λ _ _ => rfl, rfl, rfl, λ i hi => ?_⟩, ⟨hst, hs2.mono (by simp only; omega), by simp only; omega, rfl, by simp only [Mq, List.length_nil]; omega, hz, rfl⟩, rfl, rfl⟩, ?LA, ?LB⟩, ?CC⟩
 ·show gD (List.replicate (AR a).toNat 0) i = 0
  rw [FK, if_pos hi]
 case LA =>
  intro s ⟨⟨_, q1, q2, q3, q4, q5, q6⟩, r0, f0⟩
  refine ⟨λ hc => ?_, λ hc => ?_⟩
  ·have hc := Si.1 hc
   have c1 : 0 < s.k := by have := of_decide_eq_true hc.1; omega
   have c2 : 1 < AR a := by have := of_decide_eq_true hc.2; omega
   have M := UV (st := AR a) (by omega) q1 (by omega)
   obtain ⟨k, hk⟩ : ∃ k, s.k = k + 1 := ⟨s.k - 1, by omega⟩
   obtain ⟨n1, n2, n3⟩ := Ed (AR a) s.a
   have hfr := M.fr
   have hto := M.to
   have hne := M.ne
   have hrl : s.a.r.length = 0 := by rw [r0]; rfl
   have hfl : s.a.f.length = 0 := by rw [f0]; rfl
   refine ⟨q1.used.1, ⟨rfl, M.s0.used.1, by omega⟩, ⟨rfl, rfl, M.x.used.1⟩, ⟨rfl, M.y.used.1, rfl, M.z.used.1⟩, ⟨⟨by decide, by decide, by decide, by decide, by decide⟩, by decide, by decide, by decide, by decide, by decide⟩, ⟨⟨by omega, by omega⟩, by omega, ⟨by omega, by omega⟩, by omega, ⟨by omega, by omega⟩, by omega, ⟨by omega, by omega⟩, by omega⟩, ⟨⟨EF (AR a) s.a, k⟩, ⟨?_, rfl, λ _ _ => rfl, rfl, rfl, by simp only; omega, by simp only; omega, λ i hi => ?_, by simp only; omega, λ i hi => ?_, by simp only; omega, λ i hi => ?_⟩, ⟨hst, M.s.mono (by simp only; omega), by simp only; omega, by simp only; omega, by simp only; omega, by simp only; omega, ?_⟩, by simp only; omega⟩⟩
   ·show (k : Int) = IntKind.i64.wrap ((s.k : Int) - 1)
    rw [OT (by omega) (by omega)]; omega
   ·exact Ug (by omega) (by omega) (by omega) i
   ·have := Qp (AR a) s.a (i := i) (by simp only at hi; omega)
    simp only [show ¬ i < s.a.r.length by omega, decide_false, cond_false] at this
    exact this
   ·have := Qt (AR a) s.a (i := i) (by simp only at hi; omega)
    simp only [show ¬ i < s.a.f.length by omega, decide_false, cond_false] at this
    exact this
   ·rw [if_pos c2, hk] at q6
    rw [if_pos c2]; exact q6
  ·have hR : DZ a = s.a := by
    rw [<- q6]
    by_cases c2 : 1 < AR a
    ·have : ¬ 0 < s.k := λ h => by
      rw [decide_eq_true (show (s.k : Int) > 0 by omega), decide_eq_true (show AR a > 1 by omega)] at hc; cases hc
     rw [if_pos c2, show s.k = 0 by omega]; rfl
    ·rw [if_neg c2]
   rw [hR]
   have hrl : s.a.r.length = 0 := by rw [r0]; rfl
   have hfl : s.a.f.length = 0 := by rw [f0]; rfl
   exact ⟨s.a.s, ⟨rfl, λ _ _ => rfl, rfl, rfl, hrl, hrl, hfl, hfl, λ _ _ => rfl⟩, hst, q1.mono (by omega), rfl, q5, q3, by omega⟩
 case LB =>
  intro s ⟨_, q1, q2, q3, q4, q5, q6⟩
  refine ⟨λ hc => ?_, λ hc => ?_⟩
  ·have hc := Si.1 hc
   have c1 : 0 < s.k := by have := of_decide_eq_true hc.1; omega
   have c2 : 1 < AR a := by have := of_decide_eq_true hc.2; omega
   have M := UV (st := AR a) (by omega) q1 (by omega)
   obtain ⟨k, hk⟩ : ∃ k, s.k = k + 1 := ⟨s.k - 1, by omega⟩
   obtain ⟨n1, n2, n3⟩ := Ed (AR a) s.a
   have hfr := M.fr
   have hto := M.to
   have hne := M.ne
   refine ⟨q1.used.1, ⟨rfl, M.s0.used.1, by omega⟩, ⟨rfl, rfl, M.x.used.1⟩, ⟨rfl, M.y.used.1, rfl, M.z.used.1⟩, ⟨⟨by decide, by decide, by omega, by omega⟩, by decide, by decide, by omega, by omega⟩, ⟨⟨by omega, by omega⟩, by omega, ⟨by omega, by omega⟩, by omega, ⟨by omega, by omega⟩, by omega, ⟨by omega, by omega⟩, by omega⟩, ⟨⟨EF (AR a) s.a, k⟩, ⟨?_, rfl, λ _ _ => rfl, rfl, rfl, by simp only; omega, by simp only; omega, λ i hi => ?_, by simp only; omega, λ i hi => ?_, by simp only; omega, λ i hi => ?_⟩, ⟨hst, M.s.mono (by simp only; omega), by simp only; omega, by simp only; omega, by simp only; omega, by simp only; omega, ?_⟩, by simp only; omega⟩⟩
   ·show (k : Int) = IntKind.i64.wrap ((s.k : Int) - 1)
    rw [OT (by omega) (by omega)]; omega
   ·exact Ug (by omega) (by omega) (by omega) i
   ·exact Qp (AR a) s.a (i := i) (by simp only at hi; omega)
   ·exact Qt (AR a) s.a (i := i) (by simp only at hi; omega)
   ·rw [if_pos c2, hk] at q6
    rw [if_pos c2]; exact q6
  ·have hR : DZ a = s.a := by
    rw [<- q6]
    by_cases c2 : 1 < AR a
    ·have : ¬ 0 < s.k := λ h => by
      rw [decide_eq_true (show (s.k : Int) > 0 by omega), decide_eq_true (show AR a > 1 by omega)] at hc; cases hc
     rw [if_pos c2, show s.k = 0 by omega]; rfl
    ·rw [if_neg c2]
   rw [hR]
   exact ⟨s.a.s, ⟨rfl, λ _ _ => rfl, rfl, rfl, rfl, Nat.le_refl _, λ _ _ => ⟨rfl, rfl, rfl, rfl⟩, rfl, Nat.le_refl _, λ _ _ => rfl, λ _ _ => rfl⟩, hst, q1.mono (by omega), rfl, q5, q3, by omega⟩
 case CC =>
  intro s ⟨_, q1, q2, q3, q4, q5⟩
  refine ⟨⟨⟨⟨s, [], []⟩, 0⟩, ⟨rfl, rfl, λ _ _ => rfl, rfl, rfl⟩, ⟨hst, q1.mono (by simp only; omega), Nat.zero_le _, rfl, rfl, q3, q4, q5, ?_⟩, rfl⟩, ?GA, ?GB⟩
  ·show NL (DZ a).m ⟨s, [], []⟩ = Hp a
   rw [q2]; rfl
  case GA =>
   intro g ⟨⟨_, w1, w2, w3, w4, _, _, _, w5⟩, w6⟩
   refine ⟨λ hlt => ?_, λ hge => by omega⟩
   have hk : g.k < (DZ a).m.length := by omega
   rw [DX hk] at w5
   have t1 := w1.next (by omega) 9
   have t2 := t1.next (by omega) 9
   obtain ⟨n1, n2⟩ := Hy (wr (-gD (DZ a).m g.k)) g.a
   refine ⟨⟨⟨by omega, by omega⟩, by omega⟩, ⟨rfl, w1.used.1, rfl, t1.used.1, ⟨by decide, by decide, by decide, by decide, by decide⟩, by decide, by decide, by decide, by decide, by decide⟩, ⟨⟨JV (wr (-gD (DZ a).m g.k)) g.a, g.k + 1⟩, ⟨(BB (by omega)).symm, by simp only [YM], λ _ _ => by simp only [YM], by simp only [YM], by simp only [YM], by simp only; omega, by simp only; omega, by simp only; omega, λ i hi => ?_, by simp only; omega, λ i hi => ?_⟩, ⟨hst, by simp only [YM]; exact t2.mono (by omega), by simp only; omega, by simp only; omega, by simp only; omega, q3, q4, q5, w5⟩, by simp only; omega⟩⟩
   ·have := Uf (wr (-gD (DZ a).m g.k)) g.a (i := i) (by simp only at hi; omega)
    simp only [show ¬ i < g.a.g.length by omega, decide_false, cond_false] at this
    exact this
   ·have := Ti (wr (-gD (DZ a).m g.k)) g.a (i := i) (by simp only at hi; omega)
    simp only [show ¬ i < g.a.t.length by omega, decide_false, cond_false] at this
    exact this
  case GB =>
   intro g ⟨_, w1, w2, w3, w4, _, _, _, w5⟩
   refine ⟨λ hlt => ?_, λ hge => ?_⟩
   ·have hk : g.k < (DZ a).m.length := by omega
    rw [DX hk] at w5
    have t1 := w1.next (by omega) 9
    have t2 := t1.next (by omega) 9
    obtain ⟨n1, n2⟩ := Hy (wr (-gD (DZ a).m g.k)) g.a
    refine ⟨⟨⟨by omega, by omega⟩, by omega⟩, ⟨rfl, w1.used.1, rfl, t1.used.1, ⟨by decide, by decide, by omega, by omega⟩, by decide, by decide, by omega, by omega⟩, ⟨⟨JV (wr (-gD (DZ a).m g.k)) g.a, g.k + 1⟩, ⟨(BB (by omega)).symm, by simp only [YM], λ _ _ => by simp only [YM], by simp only [YM], by simp only [YM], by simp only; omega, by simp only; omega, by simp only; omega, λ i hi => ?_, by simp only; omega, λ i hi => ?_⟩, ⟨hst, by simp only [YM]; exact t2.mono (by omega), by simp only; omega, by simp only; omega, by simp only; omega, q3, q4, q5, w5⟩, by simp only; omega⟩⟩
    ·exact Uf (wr (-gD (DZ a).m g.k)) g.a (i := i) (by simp only at hi; omega)
    ·exact Ti (wr (-gD (DZ a).m g.k)) g.a (i := i) (by simp only at hi; omega)
   ·have hk : g.k = (DZ a).m.length := by omega
    rw [hk, List.drop_eq_nil_of_le (Nat.le_refl _)] at w5
    have e : Hp a = g.a := w5.symm
    have e1 : (EH a).g = g.a.g := by unfold EH; rw [e]
    have e2 : (FH a).t = g.a.t := by unfold FH; rw [e]
    rw [e, e1, e2]
    exact ⟨rfl, Nat.le_refl _, λ _ _ => ⟨rfl, rfl⟩, rfl, λ _ _ => ⟨rfl, rfl, rfl, rfl⟩, rfl, λ _ _ => rfl, rfl, Nat.le_refl _, λ _ _ => rfl, rfl, λ _ _ => rfl, rfl, rfl⟩
theorem ok29 : AL Try.prog 29 (C29.spec Qf) := JC C29 A29 [] [208, 209] Try.func29 (λ _ => by kernel_rfl) (λ _ => AB Hh (AB Nk AH)) (λ a h => p29 a h.1 h.2) (λ _ => KF rfl rfl) _
end Go.Bal
