/- Copies that are one's own; nets that are spoilt. -/
import Derived.Test.YtonddbmhljelgaaBalMk
set_option linter.unusedVariables false
set_option linter.unusedSimpArgs false
namespace Go.Bal
open Go Go.Sym Go.Proofs
def Gs (l : List Reach) : HCell := .live (.row 4 l.length λ i => LG (gD l i))
def C52o : Ctr := { α := List Reach, xs := λ l => [.d (BS l)], L := λ _ => [], val := λ l => .own 0 4 0 l.length, keep := λ l => [(0, Gs l)], pre := λ l => [0 < l.length /\ l.length <= 1000] }
def Xt : Ann := { ann 7 [] with mt := λ _ => true }
def Xy (l : List Reach) : Prop := BM Try.prog Xt Try.f52 (AJ Try.f52) (C52o.xs l) (AE []) (C52o.val l) (C52o.keep l) [(0, 3032)] []
theorem Wq (l : List Reach) : (Xy l) = (((True /\ (0 < 0 -> 0 = 4)) /\ (True /\ (0 < l.length -> 4 = 4)) /\ (true = true -> 0 < l.length) /\ 0 + l.length <= 9223372036854775807 /\ (0 + l.length) * 32 <= 140737488355328) /\ 0 =
 0 /\ l.length = 0 + l.length /\ l.length = 0 + l.length /\ ∀ (i : Nat), i < l.length -> (gD l i).fr = (gD l (i - 0)).fr /\ (gD l i).to = (gD l (i - 0)).to /\ (gD l i).sp.lo = (gD l (i - 0)).sp.lo /\ (gD l i).sp.hi = (gD l (i -
 0)).sp.hi) := by kernel_rfl
def Xn := ann 10 [(51, C51.spec Yy), (52, C52o.spec Zd)]
def C15o : Ctr := { α := NetL, xs := λ N => [.d (EZ N)], L := λ _ => [], val := λ N => .agg [.d (DV N.g), .own 0 4 0 N.r.length], keep := λ N => [(0, Gs N.r)], pre := λ N => [N.g.length <= 1000000, 0 < N.r.length /\ N.r.length <= 1000] }
def Xd (N : NetL) : Prop := BM Try.prog Xn Try.f15 (AJ Try.f15) (C15o.xs N) (AE []) (C15o.val N) (C15o.keep N) [(0, 2080)] []
theorem Vg (N : NetL) : (Xd N) = (((AC N.g.length λ (i : Nat) => gD N.g i).length = N.g.length /\ (∀ (i : Nat), i < (AC N.g.length λ (i : Nat) => gD N.g i).length -> (gD (AC N.g.length λ (i : Nat) => gD N.g
 i) i).lo = (gD N.g i).lo /\ (gD (AC N.g.length λ (i : Nat) => gD N.g i) i).hi = (gD N.g i).hi) /\ (AC N.g.length λ (i : Nat) => gD N.g i).length <= 1000000 /\ (AC N.r.length λ (i : Nat) => gD N.r i).length =
 N.r.length /\ (∀ (i : Nat), i < (AC N.r.length λ (i : Nat) => gD N.r i).length -> (gD (AC N.r.length λ (i : Nat) => gD N.r i) i).fr = (gD N.r i).fr /\ (gD (AC N.r.length λ (i : Nat) => gD N.r i) i).to = (gD N.r
 i).to /\ (gD (AC N.r.length λ (i : Nat) => gD N.r i) i).sp.lo = (gD N.r i).sp.lo /\ (gD (AC N.r.length λ (i : Nat) => gD N.r i) i).sp.hi = (gD N.r i).sp.hi) /\ 0 < (AC N.r.length λ (i : Nat) => gD N.r i).length /\
 (AC N.r.length λ (i : Nat) => gD N.r i).length <= 1000) /\ N.g.length = (AC N.g.length λ (i : Nat) => gD N.g i).length /\ (∀ (i : Nat), i < N.g.length -> (gD N.g i).lo = (gD (AC N.g.length λ (i : Nat) => gD N.g i)
 i).lo /\ (gD N.g i).hi = (gD (AC N.g.length λ (i : Nat) => gD N.g i) i).hi) /\ 0 = 0 /\ N.r.length = (AC N.r.length λ (i : Nat) => gD N.r i).length /\ N.r.length = (AC N.r.length λ (i : Nat) => gD N.r i).length /\ ∀
 (i : Nat), i < N.r.length -> (gD N.r i).fr = (gD (AC N.r.length λ (i : Nat) => gD N.r i) i).fr /\ (gD N.r i).to = (gD (AC N.r.length λ (i : Nat) => gD N.r i) i).to /\ (gD N.r i).sp.lo = (gD (AC N.r.length λ (i :
 Nat) => gD N.r i) i).sp.lo /\ (gD N.r i).sp.hi = (gD (AC N.r.length λ (i : Nat) => gD N.r i) i).sp.hi) := by kernel_rfl
structure SNet where
 s : Stm
 N : NetL
structure SRK where
 s : Stm
 r : List Reach
 k : Nat
 deriving Inhabited
def Oe (s : Stm) : Bool := decide (AS s 4 = 0)
def XH (s : Stm) : Int := LZ (AM s 4) (-50) 150
def Cb (s : Stm) : Stm := QA (AM s 4) (-50) 150
def KO (s : Stm) (r : Reach) : Stm × Reach := if Oe s then (AM (Cb s) 9, { r with sp := ⟨XH s, wr (XH s + AS (Cb s) 9)⟩ }) else (AM s 4, r)
def FT : Stm -> List Reach -> Stm × List Reach
 | s, [] => (s, [])
 | s, r :: l => ((FT (KO s r).1 l).1, (KO s r).2 :: (FT (KO s r).1 l).2)
def EO (a : SNet) : NetL := ⟨a.N.g, (FT a.s a.N.r).2⟩
def Xe (N : NetL) (x : AVal) : HCell := .live (.box [.d (DV N.g), x])
def A32 (a : SNet) : Ann := { ann 43 [(15, C15o.spec XP), (33, C33.spec Qf), (43, C43.spec Zb)] with E := [100], loops := λ id => if id = 3 then some [{ α := SRK, dflt := default, T := λ s => ⟨[(0, .bptr 100 0), (3, .bptr 201 0), (4, .bptr 202 0), (5, .int s.k)], [(100, VX s.s), (201, Xe a.N (.own 203 4 0 s.r.length)), (202, .live (.box [.d HX, .d HX])), (203, Gs s.r)]⟩, inv := λ s => s.k <= s.r.length /\ s.r.length = a.N.r.length /\ StmB (1000000000 + 10 * (s.k : Int)) s.s /\ (∀ i, i < s.r.length -> gD s.r i = if i < s.k then gD (EO a).r i else gD a.N.r i) /\ FT s.s (a.N.r.drop s.k) = ((FT a.s a.N.r).1, (EO a).r.drop s.k), meas := λ s => s.r.length - s.k, first := [(201, 1000), (202, 1016), (203, 2016)] }] else none }
def C32 : Ctr := { α := SNet, xs := λ a => [.bptr 100 0, .d (EZ a.N)], L := λ a => [(100, Ow a.s)], val := λ a => .d (EZ (EO a)), keep := λ a => [(100, VX (FT a.s a.N.r).1)], pre := λ a => [StmB 1000000000 a.s, a.N.g.length <= 1000, a.N.r.length <= 1000] }
def V32 (a : SNet) : Prop := BM Try.prog (A32 a) Try.f32 (AJ Try.f32) (C32.xs a) (AE (C32.L a)) (C32.val a) (C32.keep a) [] [203]
theorem vc32 (a : SNet) : (V32 a) = (let q := a
 let y0 : List Span := AC q.N.g.length λ (i : Nat) => gD q.N.g i
 let y1 := y0.length
 let y2 (i : Nat) : Span := gD y0 i
 let y3 (i : Nat) := (y2 i).lo
 let y4 (i : Nat) := (y2 i).hi
 let y5 : List Reach := AC q.N.r.length λ (i : Nat) => gD q.N.r i
 let y6 := y5.length
 let y7 (i : Nat) : Reach := gD y5 i
 let y8 (i : Nat) := (y7 i).fr
 let y9 (i : Nat) := (y7 i).to
 let y10 (i : Nat) : Span := (y7 i).sp
 let y11 (i : Nat) := (y10 i).lo
 let y12 (i : Nat) := (y10 i).hi
 let y13 := (0 : Nat) = (0 : Nat)
 let y14 (a : SRK) := a.r.length = y6
 let y15 := ∀ (i : Nat), i < (0 : Nat) -> false = false
 let y16 : Stm := (FT q.s q.N.r).fst
 let y17 (a : SRK) := a.k <= a.r.length /\ a.r.length = q.N.r.length /\ StmB ((1000000000 : Int) + (10 : Int) * (↑a.k : Int)) a.s /\ (∀ (i : Nat), i < a.r.length -> gD a.r i = if i < a.k then gD (EO q).r i else gD q.N.r i) /\ FT a.s (List.drop a.k q.N.r) = (y16, List.drop a.k (EO q).r)
 let y18 (a : SRK) := (↑a.k : Int) < (↑a.r.length : Int)
 let y19 (a : SRK) : List Int := AC a.s.bs.length λ (i : Nat) => gD a.s.bs i
 let y20 (a : SRK) := (y19 a).length
 let y21 (a : SRK) : Stm := Stm.mk (y19 a) a.s.used a.s.mix
 let y22 (a : SRK) : Stm := AM (y21 a) (4 : Int)
 let y23 (a : SRK) : List Int := (y22 a).bs
 let y24 (a : SRK) := (y23 a).length
 let y25 (a : SRK) (i : Nat) := gD (y23 a) i
 let y26 (a : SRK) : List Int := AC (y24 a) λ (i : Nat) => y25 a i
 let y27 (a : SRK) := (y26 a).length
 let y28 (a : SRK) := (y22 a).used
 let y29 (a : SRK) := (y22 a).mix
 let y30 (a : SRK) := (0 : Int) <= (↑a.k : Int) /\ y18 a
 let y31 (a : SRK) := (0 : Nat) + a.k
 let y32 (a : SRK) := y30 a /\ (y31 a).succ.le a.r.length
 let y33 (a : SRK) : Stm := Stm.mk (y26 a) (y28 a) (y29 a)
 let y34 (a : SRK) : Stm := QA (y33 a) (-50 : Int) (150 : Int)
 let y35 (a : SRK) : List Int := (y34 a).bs
 let y36 (a : SRK) := (y35 a).length
 let y37 (a : SRK) (i : Nat) := gD (y35 a) i
 let y38 (a : SRK) : List Int := AC (y36 a) λ (i : Nat) => y37 a i
 let y39 (a : SRK) := (y38 a).length
 let y40 (a : SRK) := (y34 a).used
 let y41 (a : SRK) := (y34 a).mix
 let y42 (a : SRK) (a1 : SRK) := (↑a.k : Int) = IntKind.i64.wrap ((↑a1.k : Int) + (1 : Int))
 let y43 (a : SRK) : Stm := Stm.mk (y38 a) (y40 a) (y41 a)
 let y44 (a : SRK) : Stm := AM (y43 a) (9 : Int)
 let y45 (a : SRK) : List Int := (y44 a).bs
 let y46 := q.N.g.length = q.N.g.length
 let y47 := ∀ (i : Nat), i < q.N.g.length -> (gD q.N.g i).lo = (gD q.N.g i).lo /\ (gD q.N.g i).hi = (gD q.N.g i).hi
 let y48 (a : SRK) (a1 : SRK) := a.r.length = a1.r.length
 let y49 (i : Nat) (a : SRK) := decide (i = y31 a)
 let y50 (a : SRK) := decide (y31 a = y31 a)
 let y51 (a : SRK) : Reach := gD a.r (y31 a)
 let y52 (a : SRK) := (y51 a).fr
 let y53 (a : SRK) := (y51 a).to
 let y54 (a : SRK) := LZ (y33 a) (-50 : Int) (150 : Int)
 let y55 (a : SRK) : Span := (y51 a).sp
 let y56 (a : SRK) := bif y50 a then y54 a else (y55 a).lo
 let y57 (a : SRK) := a.r.length - a.k
 let y58 (a : SRK) (a2 : SRK) := y17 a /\ y57 a < y57 a2
 let y59 (a : SRK) (j : Nat) : Reach := gD a.r ((0 : Nat) + j)
 let y60 (a : SRK) (j : Nat) : Span := (y59 a j).sp
 let y61 : List Int := y16.bs
 let y62 := y61.length
 ((y1 = a.N.g.length /\ (∀ (i : Nat), i < y1 -> y3 i = (gD a.N.g i).lo /\ y4 i = (gD a.N.g i).hi) /\ y6 = a.N.r.length /\ (∀ (i : Nat), i < y6 -> y8 i = (gD
 a.N.r i).fr /\ y9 i = (gD a.N.r i).to /\ y11 i = (gD a.N.r i).sp.lo /\ y12 i = (gD a.N.r i).sp.hi) /\ y1 <= (1000000 : Nat) /\ (0 : Nat) < y6 /\ y6 <= (1000 : Nat)) /\ (∃ (a_1 : SRK), ((↑a_1.k : Int)
 = (0 : Int) /\ a_1.s.bs.length = a.s.bs.length /\ (∀ (i : Nat), i < a_1.s.bs.length -> gD a_1.s.bs i = gD a.s.bs i) /\ a_1.s.used = a.s.used /\ a_1.s.mix = a.s.mix /\ a.N.g.length = y1 /\ (∀ (i : Nat), i < a.N.g.length ->
 (gD a.N.g i).lo = y3 i /\ (gD a.N.g i).hi = y4 i) /\ y13 /\ y14 a_1 /\ y13 /\ y15 /\ y13 /\ y15 /\ y14 a_1 /\ ∀ (i : Nat), i < a_1.r.length -> (gD a_1.r i).fr = y8 i /\ (gD a_1.r i).to =
 y9 i /\ (gD a_1.r i).sp.lo = y11 i /\ (gD a_1.r i).sp.hi = y12 i) /\ y17 a_1) /\ ∀ (a_1 : SRK), y17 a_1 -> bif decide (y18 a_1) then ((4 : Int) = Int.ofNat (4 : Nat) /\ y20 a_1 = a_1.s.bs.length
 /\ (∀ (i : Nat), i < y20 a_1 -> gD (y19 a_1) i = gD a_1.s.bs i) /\ a_1.s.used = a_1.s.used /\ a_1.s.mix = a_1.s.mix /\ (a_1.s.used - (0 : Int)).NonNeg) /\ bif AS (y21 a_1) (4 : Int) == (0 : Int) then ((-50 : Int) =
 Int.negSucc (49 : Nat) /\ (150 : Int) = Int.ofNat (150 : Nat) /\ y27 a_1 = y24 a_1 /\ (∀ (i : Nat), i < y27 a_1 -> gD (y26 a_1) i = y25 a_1 i) /\ y28 a_1 = y28 a_1 /\ y29 a_1 = y29 a_1 /\ (0 : Int) <=
 y28 a_1 /\ y32 a_1) /\ (y30 a_1 /\ y31 a_1 < a_1.r.length /\ (9 : Int) = Int.ofNat (9 : Nat) /\ y39 a_1 = y36 a_1 /\ (∀ (i : Nat), i < y39 a_1 -> gD (y38 a_1) i = y37 a_1 i) /\ y40 a_1 = y40 a_1
 /\ y41 a_1 = y41 a_1 /\ (0 : Int) <= y40 a_1 /\ y32 a_1) /\ ∃ (a_3 : SRK), (y42 a_3 a_1 /\ a_3.s.bs.length = (y45 a_1).length /\ (∀ (i : Nat), i < a_3.s.bs.length -> gD a_3.s.bs i = gD (y45 a_1) i) /\
 a_3.s.used = (y44 a_1).used /\ a_3.s.mix = (y44 a_1).mix /\ y46 /\ y47 /\ y13 /\ y48 a_3 a_1 /\ y13 /\ y15 /\ y13 /\ y15 /\ y48 a_3 a_1 /\ ∀ (i : Nat), i < a_3.r.length -> ((gD a_3.r i).fr = bif
 y49 i a_1 then bif y50 a_1 then y52 a_1 else y52 a_1 else bif y49 i a_1 then y52 a_1 else (gD a_1.r i).fr) /\ ((gD a_3.r i).to = bif y49 i a_1 then bif y50 a_1 then y53 a_1 else y53 a_1 else
 bif y49 i a_1 then y53 a_1 else (gD a_1.r i).to) /\ ((gD a_3.r i).sp.lo = bif y49 i a_1 then y56 a_1 else bif y49 i a_1 then y54 a_1 else (gD a_1.r i).sp.lo) /\ (gD a_3.r i).sp.hi = bif y49 i a_1 then
 IntKind.i64.wrap (y56 a_1 + AS (y43 a_1) (9 : Int)) else bif y49 i a_1 then (y55 a_1).hi else (gD a_1.r i).sp.hi) /\ y58 a_3 a_1 else ∃ (a_3 : SRK), (y42 a_3 a_1 /\ a_3.s.bs.length = y24 a_1 /\ (∀
 (i : Nat), i < a_3.s.bs.length -> gD a_3.s.bs i = y25 a_1 i) /\ a_3.s.used = y28 a_1 /\ a_3.s.mix = y29 a_1 /\ y46 /\ y47 /\ y13 /\ y48 a_3 a_1 /\ y13 /\ y15 /\ y13 /\ y15 /\ y48 a_3 a_1 /\ ∀
 (i : Nat), i < a_3.r.length -> (gD a_3.r i).fr = (gD a_1.r i).fr /\ (gD a_3.r i).to = (gD a_1.r i).to /\ (gD a_3.r i).sp.lo = (gD a_1.r i).sp.lo /\ (gD a_3.r i).sp.hi = (gD a_1.r i).sp.hi) /\ y58 a_3 a_1 else (EO
 a).g.length = a.N.g.length /\ (∀ (i : Nat), i < (EO a).g.length -> (gD (EO a).g i).lo = (gD a.N.g i).lo /\ (gD (EO a).g i).hi = (gD a.N.g i).hi) /\ (EO a).r.length = a_1.r.length /\ (0 : Nat) + a_1.r.length <=
 a_1.r.length /\ (∀ (j : Nat), j < (EO a).r.length -> (gD (EO a).r j).fr = (y59 a_1 j).fr /\ (gD (EO a).r j).to = (y59 a_1 j).to /\ (gD (EO a).r j).sp.lo = (y60 a_1 j).lo /\ (gD (EO a).r j).sp.hi = (y60 a_1 j).hi) /\ y62 = a_1.s.bs.length /\ (∀ (i : Nat), i < y62 -> gD y61 i = gD a_1.s.bs i) /\ y16.used = a_1.s.used /\ y16.mix = a_1.s.mix)) := by kernel_rfl
def Tg (a : SNet) : Ann := { ann 43 [(15, C15.spec XP), (33, C33.spec Qf), (43, C43.spec Zb)] with E := [100], loops := λ id => if id = 3 then some [{ α := One, dflt := default, T := λ s => ⟨[(0, .bptr 100 0), (3, .bptr 201 0), (4, .bptr 202 0), (5, .int 0)], [(100, VX a.s), (201, Xe a.N (.d (BS a.N.r))), (202, .live (.box [.d HX, .d HX]))]⟩, inv := λ s => True, meas := λ s => 0, first := [(201, 1000), (202, 1016)] }] else none }
def Xf (a : SNet) : Prop := BM Try.prog (Tg a) Try.f32 (AJ Try.f32) (C32.xs a) (AE (C32.L a)) (C32.val a) (C32.keep a) [] []
theorem Xm (a : SNet) : (Xf a) = (let q := a
 let y0 : List Span := AC q.N.g.length λ (i : Nat) => gD q.N.g i
 let y1 := y0.length
 let y2 (i : Nat) : Span := gD y0 i
 let y3 (i : Nat) := (y2 i).lo
 let y4 (i : Nat) := (y2 i).hi
 let y5 : List Reach := AC q.N.r.length λ (i : Nat) => gD q.N.r i
 let y6 := y5.length
 let y7 (i : Nat) : Reach := gD y5 i
 let y8 (i : Nat) := (y7 i).fr
 let y9 (i : Nat) := (y7 i).to
 let y10 (i : Nat) : Span := (y7 i).sp
 let y11 (i : Nat) := (y10 i).lo
 let y12 (i : Nat) := (y10 i).hi
 let y13 := (0 : Nat) = (0 : Nat)
 let y14 := ∀ (i : Nat), i < (0 : Nat) -> false = false
 let y15 := y13 /\ y14 /\ y13 /\ y14
 let y16 : List Int := AC q.s.bs.length λ (i : Nat) => gD q.s.bs i
 let y17 := y16.length
 let y18 : Stm := Stm.mk y16 q.s.used q.s.mix
 let y19 : Stm := AM y18 (4 : Int)
 let y20 : List Int := y19.bs
 let y21 : Stm := (FT q.s q.N.r).fst
 let y22 : List Int := y21.bs
 let y23 := y22.length
 ((y1 = a.N.g.length /\ (∀ (i : Nat), i < y1 -> y3 i = (gD a.N.g i).lo /\ y4 i = (gD a.N.g i).hi) /\ y6 = a.N.r.length /\ (∀ (i : Nat), i < y6 -> y8 i = (gD a.N.r i).fr /\ y9 i = (gD a.N.r i).to /\ y11 i = (gD a.N.r i).sp.lo /\ y12 i = (gD a.N.r i).sp.hi) /\ y1 <= (1000000 : Nat) /\ y6.le (1000000 : Nat)) /\ (∃ (a_1 : One), (Int.ofNat (0 :
 Nat) = Int.ofNat (0 : Nat) /\ a.s.bs.length = a.s.bs.length /\ (∀ (i : Nat), i < a.s.bs.length -> gD a.s.bs i = gD a.s.bs i) /\ a.s.used = a.s.used /\ a.s.mix = a.s.mix /\ a.N.g.length = y1 /\ (∀ (i : Nat), i <
 a.N.g.length -> (gD a.N.g i).lo = y3 i /\ (gD a.N.g i).hi = y4 i) /\ a.N.r.length = y6 /\ (∀ (i : Nat), i < a.N.r.length -> (gD a.N.r i).fr = y8 i /\ (gD a.N.r i).to = y9 i /\ (gD a.N.r i).sp.lo =
 y11 i /\ (gD a.N.r i).sp.hi = y12 i) /\ y15) /\ True) /\ ∀ (a_1 : One), True -> bif decide ((0 : Int) < (↑a.N.r.length : Int)) then ((4 : Int) = Int.ofNat (4 : Nat) /\ y17 = a.s.bs.length /\ (∀ (i : Nat),
 i < y17 -> gD y16 i = gD a.s.bs i) /\ a.s.used = a.s.used /\ a.s.mix = a.s.mix /\ (a.s.used - (0 : Int)).NonNeg) /\ bif AS y18 (4 : Int) == (0 : Int) then False else ∃ (a_3 : One), (Int.ofNat (0 :
 Nat) = Int.ofNat (((0 : Nat) + (1 : Nat)) % ((2 : Int) ^ IntKind.i64.bits).natAbs) /\ a.s.bs.length = y20.length /\ (∀ (i : Nat), i < a.s.bs.length -> gD a.s.bs i = gD y20 i) /\ a.s.used = y19.used /\
 a.s.mix = y19.mix /\ a.N.g.length = a.N.g.length /\ (∀ (i : Nat), i < a.N.g.length -> (gD a.N.g i).lo = (gD a.N.g i).lo /\ (gD a.N.g i).hi = (gD a.N.g i).hi) /\ a.N.r.length = a.N.r.length /\ (∀ (i : Nat), i <
 a.N.r.length -> (gD a.N.r i).fr = (gD a.N.r i).fr /\ (gD a.N.r i).to = (gD a.N.r i).to /\ (gD a.N.r i).sp.lo = (gD a.N.r i).sp.lo /\ (gD a.N.r i).sp.hi = (gD a.N.r i).sp.hi) /\ y15) /\ True /\ (0 : Nat) < (0 : Nat) else
 (EO a).g.length = a.N.g.length /\ (∀ (i : Nat), i < (EO a).g.length -> (gD (EO a).g i).lo = (gD a.N.g i).lo /\ (gD (EO a).g i).hi = (gD a.N.g i).hi) /\ (EO a).r.length = a.N.r.length /\ (∀ (i : Nat), i < (EO
 a).r.length -> (gD (EO a).r i).fr = (gD a.N.r i).fr /\ (gD (EO a).r i).to = (gD a.N.r i).to /\ (gD (EO a).r i).sp.lo = (gD a.N.r i).sp.lo /\ (gD (EO a).r i).sp.hi = (gD a.N.r i).sp.hi) /\ y23 = a.s.bs.length /\
 (∀ (i : Nat), i < y23 -> gD y22 i = gD a.s.bs i) /\ y21.used = a.s.used /\ y21.mix = a.s.mix)) := by kernel_rfl
theorem p52o (l : List Reach) (h : 0 < l.length /\ l.length <= 1000) : Xy l := by
 rw [Wq]; simp only [CC, eq_self, implies_true, forall_const]
 exact ⟨⟨λ h => absurd h (by decide), h.1, by omega, by omega⟩, λ _ _ => ⟨rfl, rfl, rfl, rfl⟩⟩
theorem p15o (N : NetL) (h1 : N.g.length <= 1000000) (h2 : 0 < N.r.length /\ N.r.length <= 1000) : Xd N := by
 rw [Vg]; simp only [CC, eq_self, implies_true, forall_const]
 exact ⟨h1, h2⟩
theorem Vt : AL Try.prog 52 (C52o.spec Zd) := JC C52o (λ _ => Xt) [(0, 3032)] [] Try.func52 (λ _ => by kernel_rfl) (λ _ => AH) (λ l h => p52o l h) (λ _ => KF rfl rfl) _
theorem Sj : AL Try.prog 15 (C15o.spec XP) := JC C15o (λ _ => Xn) [(0, 2080)] [] Try.func15 (λ _ => by kernel_rfl) (λ _ => AB Ui (AB Vt AH)) (λ N h => p15o N h.1 h.2) (λ _ => KF rfl rfl) _
theorem RE : ∀ (l : List Reach) (s : Stm), (FT s l).2.length = l.length
 | [], _ => rfl
 | r :: l, s => by simp only [FT, List.length_cons, RE l]
theorem Ka {K : Int} {s : Stm} (h : StmB K s) (hK : K <= 100000000000000) (r : Reach) : StmB (K + 3) (KO s r).1 := by
 have a := h.next (by omega) 4
 have b := a.next (by omega) (Br (-50) 150)
 have c := b.next (by omega) 9
 unfold KO
 split
 ·exact c.mono (by omega)
 ·exact a.mono (by omega)
theorem Nv {s : Stm} {r : Reach} {l m : List Reach} {f : Stm} {k : Nat} (h : FT s (r :: l) = (f, m.drop k)) (hk : k < m.length) : (KO s r).2 = gD m k /\ FT (KO s r).1 l = (f, m.drop (k + 1)) := by
 rw [DX hk] at h
 simp only [FT, Prod.mk.injEq, List.cons.injEq] at h
 exact ⟨h.2.1, Prod.ext h.1 h.2.2⟩
theorem p32 (a : SNet) (h1 : StmB 1000000000 a.s) (h2 : a.N.g.length <= 1000) (h3 : a.N.r.length <= 1000) (h4 : 0 < a.N.r.length) : V32 a := by
 have hl : (EO a).r.length = a.N.r.length := RE _ _
 rw [vc32]; (conv => zeta); simp only [CC, eq_self, implies_true, forall_const, DL.m2]
 refine ⟨⟨by omega, h4, h3⟩, ⟨⟨a.s, a.N.r, 0⟩, ⟨rfl, rfl, λ _ _ => rfl, rfl, rfl, rfl, rfl, λ _ _ => ⟨rfl, rfl, rfl, rfl⟩⟩, Nat.zero_le _, rfl, h1.mono (by simp only; omega), λ i _ => (if_neg (Nat.not_lt_zero i)).symm, rfl⟩, λ s ⟨q1, q2, q3, q4, q5⟩ => ⟨λ hlt => ?_, λ hge => ?_⟩⟩
 ·have hk : s.k < a.N.r.length := by omega
  rw [DX hk] at q5
  obtain ⟨e1, e2⟩ := Nv q5 (by omega)
  have hr : gD s.r s.k = gD a.N.r s.k := by rw [q4 s.k (by omega), if_neg (by omega)]
  have t1 := q3.next (by omega) 4
  have t2 : StmB _ (Cb s.s) := t1.next (by omega) (Br (-50) 150)
  have tt := Ka q3 (by omega) (gD a.N.r s.k)
  have q4' : ∀ i, i < s.r.length -> i ≠ s.k -> gD s.r i = if i < s.k + 1 then gD (EO a).r i else gD a.N.r i := λ i hi hne => by
   rw [q4 i hi]
   by_cases x : i < s.k
   ·rw [if_pos x, if_pos (by omega)]
   ·rw [if_neg x, if_neg (by omega)]
  refine ⟨⟨rfl, q3.used.1⟩, λ hc => ⟨⟨rfl, rfl, t1.used.1, ⟨by omega, hlt⟩, by omega⟩, ⟨⟨by omega, hlt⟩, by omega, rfl, t2.used.1, ⟨by omega, hlt⟩, by omega⟩, ⟨⟨AM (Cb s.s) 9, s.r.set s.k (KO s.s (gD a.N.r s.k)).2, s.k + 1⟩, ⟨(BB (by omega)).symm, rfl, λ _ _ => rfl, rfl, rfl, by simp, by simp, λ i hi => ?_⟩, ⟨by simp; omega, by simp; omega, ?_, λ i hi => ?_, ?_⟩, by simp; omega⟩⟩, λ hc => ⟨⟨AM s.s 4, s.r, s.k + 1⟩, ⟨(BB (by omega)).symm, rfl, λ _ _ => rfl, rfl, rfl, rfl, rfl, λ i hi => ⟨rfl, rfl, rfl, rfl⟩⟩, ⟨by simp only; omega, q2, ?_, λ i hi => ?_, ?_⟩, by simp only; omega⟩⟩
  all_goals first
   | have hcc : Oe s.s = true := by unfold Oe; simpa using hc
   | have hcc : Oe s.s = false := by unfold Oe; simpa using hc
  ·have hv : (KO s.s (gD a.N.r s.k)).2 = { (gD a.N.r s.k) with sp := ⟨XH s.s, wr (XH s.s + AS (Cb s.s) 9)⟩ } := by unfold KO; rw [hcc]; rfl
   simp only [hv, hr]
   rw [No (by omega)]
   by_cases he : i = s.k
   ·subst he; simp; exact ⟨rfl, rfl⟩
   ·simp [he]
  ·have hv : (KO s.s (gD a.N.r s.k)).1 = AM (Cb s.s) 9 := by unfold KO; rw [hcc]; rfl
   rw [hv] at tt
   exact tt.mono (by simp only; omega)
  ·simp only
   rw [No (by omega)]
   by_cases he : i = s.k
   ·rw [if_pos he, if_pos (by omega), e1, he]
   ·rw [if_neg he]; exact q4' i (by simpa using hi) he
  ·have hv : (KO s.s (gD a.N.r s.k)).1 = AM (Cb s.s) 9 := by unfold KO; rw [hcc]; rfl
   simp only; rw [<- hv]; exact e2
  ·have hv : (KO s.s (gD a.N.r s.k)).1 = AM s.s 4 := by unfold KO; rw [hcc]; rfl
   rw [hv] at tt
   exact tt.mono (by simp only; omega)
  ·have hv : (KO s.s (gD a.N.r s.k)).2 = gD a.N.r s.k := by unfold KO; rw [hcc]; rfl
   simp only
   by_cases he : i = s.k
   ·rw [if_pos (by omega), he, <- e1, hv, hr]
   ·exact q4' i hi he
  ·have hv : (KO s.s (gD a.N.r s.k)).1 = AM s.s 4 := by unfold KO; rw [hcc]; rfl
   simp only; rw [<- hv]; exact e2
 ·have hk : s.k = a.N.r.length := by omega
  rw [List.drop_eq_nil_of_le (by omega)] at q5
  have q5 : (s.s, []) = _ := q5
  have e := congrArg Prod.fst q5
  have e : s.s = (FT a.s a.N.r).1 := e
  have er : ∀ j, j < (EO a).r.length -> gD s.r j = gD (EO a).r j := λ j hj => by rw [q4 j (by omega), if_pos (by omega)]
  rw [<- e]
  exact ⟨rfl, λ _ _ => ⟨rfl, rfl⟩, by omega, Nat.le_refl _, λ j hj => by rw [er j hj]; exact ⟨rfl, rfl, rfl, rfl⟩, rfl, λ _ _ => rfl, rfl, rfl⟩
theorem Yc (a : SNet) (h1 : StmB 1000000000 a.s) (h2 : a.N.g.length <= 1000) (h3 : a.N.r.length = 0) : Xf a := by
 have hl : (EO a).r.length = a.N.r.length := RE _ _
 have h0 : a.N.r = [] := List.eq_nil_of_length_eq_zero h3
 have hs : (FT a.s a.N.r).1 = a.s := by rw [h0]; rfl
 rw [Xm]; (conv => zeta); simp only [CC, eq_self, implies_true, forall_const, DL.m2]
 refine ⟨⟨by omega, by omega⟩, ⟨⟨0⟩, trivial⟩, λ h => by omega, λ _ => ?_⟩
 rw [hs]
 exact ⟨rfl, λ _ _ => ⟨rfl, rfl⟩, hl, λ i hi => by omega, rfl, λ _ _ => rfl, rfl, rfl⟩
def Zs : List AVal -> Heap -> Option (SNet × List (Nat × Nat) × List Nat)
 | [.bptr p _, .d x], H => match Ib H p, LW x with
  | some s, some N => some (⟨s, N⟩, [(100, p)], [])
  | _, _ => none
 | _, _ => none
theorem ok32 : AL Try.prog 32 (C32.spec Zs) := Ctr.spec_ok (C := C32) (λ (a : SNet) ha => by
 obtain ⟨h1, h2, h3⟩ : StmB 1000000000 a.s /\ a.N.g.length <= 1000 /\ a.N.r.length <= 1000 := ha
 by_cases h : a.N.r.length = 0
 ·exact RX (A := Tg a) (ren := []) (fz := []) Try.func32 (by kernel_rfl) (AB Uw (AB Hh (AB Nk AH))) (Yc a h1 h2 h)
 ·exact RX (A := A32 a) (ren := []) (fz := [203]) Try.func32 (by kernel_rfl) (AB Sj (AB Hh (AB Nk AH))) (p32 a h1 h2 h3 (by omega))) _
end Go.Bal
