/- Package balance: Group. -/
import Derived.Test.YtonddbmhljelgaaBalN
set_option linter.unusedVariables false
set_option linter.unusedSimpArgs false
namespace Go.Bal
open Go Go.Sym Go.Proofs
structure NGr where
 N : NetL
 st : List Int
structure SL where
 last : Int
 k : Nat
 deriving Inhabited
structure GK where
 all : List Way
 k : Nat
 total : Int
 deriving Inhabited
def grpBad (n : Nat) : Int -> List Int -> Bool
 | _, [] => false
 | last, s :: l => !inM s (wr (last + 1)) (wr ((n : Int) - 1)) || grpBad n s l
def DD (out nR : Nat) : List Int -> List Way -> Int -> List Way × Int
 | [], all, t => (all, t)
 | s :: l, all, t => DD out nR l (all.modify (wr (nR + s)).toNat λ w => { w with fr := wr (out + 1) }) (wr (t + (gD all (wr (nR + s)).toNat).now))
def CO (d : Desk) (st : List Int) : Desk := ⟨(DD d.out d.nR st d.all 0).1 ++ [⟨d.out, wr (d.out + 1), ⟨-100000000, 100000000⟩, (DD d.out d.nR st d.all 0).2⟩], d.out, d.nR⟩
def NB (a : NGr) : Span := (CX (CO (AB a.N) a.st) (AB a.N).all.length).getD default
def A35 (a : NGr) : Ann := { ann 129 [(44, s44), (62, Zt), (73, C73.spec QO), (75, C75.spec OM), (74, C74.spec dDI)] with mt := λ id => id == 27, loops := λ id => if id = 4 then some [{ α := SL, dflt := default, T := λ s => ⟨[(1, .d (AW a.st)), (2, .bptr 200 0), (4, .bptr 201 0), (6, .int 0), (7, .int s.last), (19, .d (AW a.st)), (20, .int a.st.length), (21, .int s.k)], [(200, EZ a.N), (201, .live (.box [.int 0, .int 0]))]⟩, inv := λ s => s.k <= a.st.length /\ grpBad a.N.g.length s.last (a.st.drop s.k) = false, meas := λ s => a.st.length - s.k, first := [(200, 1000), (201, 1016)] }] else if id = 21 then some [{ α := GK, dflt := default, T := λ s => ⟨[(4, .bptr 201 0), (10, .bptr 301 0), (11, .int (wr ((AB a.N).out + 1))), (12, .int (AB a.N).all.length), (13, .int s.total), (74, .d (AW a.st)), (75, .int a.st.length), (76, .int s.k)], [(201, .live (.box [.int 0, .int 0])), (301, .live (VQ (Desk.mk s.all (AB a.N).out (AB a.N).nR) 302)), (302, .live (VT (Desk.mk s.all (AB a.N).out (AB a.N).nR)))]⟩, inv := λ s => s.k <= a.st.length /\ s.all.length = (AB a.N).all.length /\ DD (AB a.N).out (AB a.N).nR (a.st.drop s.k) s.all s.total = DD (AB a.N).out (AB a.N).nR a.st (AB a.N).all 0, meas := λ s => a.st.length - s.k, first := [(301, 18016), (302, 18017)] }] else none }
def Zq (a : NGr) : List AVal := [.d (EI a.N), .d (AW a.st)]
def C35 : Ctr := { α := NGr, xs := Zq, L := λ _ => [], val := λ a => .tup [.d (EU (NB a)), .int 0], keep := λ _ => [], pre := λ a => [AC a.N = 0, (AO a.N).isSome = true, ¬ 0 < BK a.N, grpBad a.N.g.length (-1) a.st = false, 0 < a.st.length /\ a.st.length <= 1000000, (CX (CO (AB a.N) a.st) (AB a.N).all.length).isSome = true] }
def V35 (a : NGr) : Prop := BC Try.prog (A35 a) Try.f35 (AH Try.f35) (C35.xs a) (AE (C35.L a)) (C35.val a) (C35.keep a) [] []
theorem vc35 (a : NGr) : (V35 a) = (((∀ (i : Nat), i < a.N.g.length -> True) /\ ∀ (i : Nat), i < a.N.r.length -> True) /\ (∃ (a_1 : SL), (a.st.length = a.st.length /\ (∀ (i : Nat), i < a.st.length -> gD a.st i = gD a.st i) /\
 (0 : Int) = DE (Net.mk a.N.g.length (λ (i : Nat) => gD a.N.g i) a.N.r.length λ (i : Nat) => gD a.N.r i) /\ a_1.last = (-1 : Int) /\ a.st.length = a.st.length /\ (∀ (i : Nat), i < a.st.length -> gD a.st i = gD a.st i)
 /\ (↑a.st.length : Int) = (↑a.st.length : Int) /\ (↑a_1.k : Int) = (0 : Int) /\ a.N.g.length = a.N.g.length /\ (∀ (i : Nat), i < a.N.g.length -> (gD a.N.g i).lo = (gD a.N.g i).lo /\ (gD a.N.g i).hi = (gD a.N.g i).hi) /\
 a.N.r.length = a.N.r.length /\ (∀ (i : Nat), i < a.N.r.length -> (gD a.N.r i).fr = (gD a.N.r i).fr /\ (gD a.N.r i).to = (gD a.N.r i).to /\ (gD a.N.r i).sp.lo = (gD a.N.r i).sp.lo /\ (gD a.N.r i).sp.hi = (gD a.N.r i).sp.hi) /\
 Int.ofNat (0 : Nat) = Int.ofNat (0 : Nat) /\ Int.ofNat (0 : Nat) = Int.ofNat (0 : Nat)) /\ a_1.k <= a.st.length /\ grpBad a.N.g.length a_1.last (List.drop a_1.k a.st) = false) /\ ∀ (a_1 : SL), a_1.k <= a.st.length /\ grpBad
 a.N.g.length a_1.last (List.drop a_1.k a.st) = false -> bif decide ((↑a_1.k : Int) < (↑a.st.length : Int)) then ((0 : Int) <= (↑a_1.k : Int) /\ (↑a_1.k : Int) < (↑a.st.length : Int)) /\ bif bif (0 : Int) == (0 : Int) then
 !inM (gD a.st a_1.k) (IntKind.i64.wrap (a_1.last + (1 : Int))) (IntKind.i64.wrap ((↑a.N.g.length : Int) - (1 : Int))) else false then ∃ (a_3 : SL), (a.st.length = a.st.length /\ (∀ (i : Nat), i < a.st.length -> gD a.st i =
 gD a.st i) /\ Int.ofNat (0 : Nat) = Int.ofNat (2 : Nat) /\ a_3.last = gD a.st a_1.k /\ a.st.length = a.st.length /\ (∀ (i : Nat), i < a.st.length -> gD a.st i = gD a.st i) /\ (↑a.st.length : Int) = (↑a.st.length : Int) /\
 (↑a_3.k : Int) = IntKind.i64.wrap ((↑a_1.k : Int) + (1 : Int)) /\ a.N.g.length = a.N.g.length /\ (∀ (i : Nat), i < a.N.g.length -> (gD a.N.g i).lo = (gD a.N.g i).lo /\ (gD a.N.g i).hi = (gD a.N.g i).hi) /\ a.N.r.length =
 a.N.r.length /\ (∀ (i : Nat), i < a.N.r.length -> (gD a.N.r i).fr = (gD a.N.r i).fr /\ (gD a.N.r i).to = (gD a.N.r i).to /\ (gD a.N.r i).sp.lo = (gD a.N.r i).sp.lo /\ (gD a.N.r i).sp.hi = (gD a.N.r i).sp.hi) /\ Int.ofNat (0 :
 Nat) = Int.ofNat (0 : Nat) /\ Int.ofNat (0 : Nat) = Int.ofNat (0 : Nat)) /\ (a_3.k <= a.st.length /\ grpBad a.N.g.length a_3.last (List.drop a_3.k a.st) = false) /\ a.st.length - a_3.k < a.st.length - a_1.k else ∃ (a_3 : SL),
 (a.st.length = a.st.length /\ (∀ (i : Nat), i < a.st.length -> gD a.st i = gD a.st i) /\ Int.ofNat (0 : Nat) = Int.ofNat (0 : Nat) /\ a_3.last = gD a.st a_1.k /\ a.st.length = a.st.length /\ (∀ (i : Nat), i < a.st.length -> gD
 a.st i = gD a.st i) /\ (↑a.st.length : Int) = (↑a.st.length : Int) /\ (↑a_3.k : Int) = IntKind.i64.wrap ((↑a_1.k : Int) + (1 : Int)) /\ a.N.g.length = a.N.g.length /\ (∀ (i : Nat), i < a.N.g.length -> (gD a.N.g i).lo = (gD
 a.N.g i).lo /\ (gD a.N.g i).hi = (gD a.N.g i).hi) /\ a.N.r.length = a.N.r.length /\ (∀ (i : Nat), i < a.N.r.length -> (gD a.N.r i).fr = (gD a.N.r i).fr /\ (gD a.N.r i).to = (gD a.N.r i).to /\ (gD a.N.r i).sp.lo = (gD a.N.r
 i).sp.lo /\ (gD a.N.r i).sp.hi = (gD a.N.r i).sp.hi) /\ Int.ofNat (0 : Nat) = Int.ofNat (0 : Nat) /\ Int.ofNat (0 : Nat) = Int.ofNat (0 : Nat)) /\ (a_3.k <= a.st.length /\ grpBad a.N.g.length a_3.last (List.drop a_3.k a.st) =
 false) /\ a.st.length - a_3.k < a.st.length - a_1.k else bif bif (0 : Int) == (0 : Int) then (↑a.st.length : Int) == (0 : Int) else false then (NB a).lo = (0 : Int) /\ (NB a).hi = (0 : Int) /\ Int.ofNat (0 : Nat) =
 Int.ofNat (2 : Nat) else ((AD a.N.g.length λ (i : Nat) => gD a.N.g i).length = a.N.g.length /\ (∀ (i : Nat), i < (AD a.N.g.length λ (i : Nat) => gD a.N.g i).length -> (gD (AD a.N.g.length λ (i : Nat) => gD a.N.g
 i) i).lo = (gD a.N.g i).lo /\ (gD (AD a.N.g.length λ (i : Nat) => gD a.N.g i) i).hi = (gD a.N.g i).hi) /\ (AD a.N.r.length λ (i : Nat) => gD a.N.r i).length = a.N.r.length /\ (∀ (i : Nat), i < (AD a.N.r.length λ (i
 : Nat) => gD a.N.r i).length -> (gD (AD a.N.r.length λ (i : Nat) => gD a.N.r i) i).fr = (gD a.N.r i).fr /\ (gD (AD a.N.r.length λ (i : Nat) => gD a.N.r i) i).to = (gD a.N.r i).to /\ (gD (AD a.N.r.length λ (i : Nat)
 => gD a.N.r i) i).sp.lo = (gD a.N.r i).sp.lo /\ (gD (AD a.N.r.length λ (i : Nat) => gD a.N.r i) i).sp.hi = (gD a.N.r i).sp.hi) /\ AC (NetL.mk (AD a.N.g.length λ (i : Nat) => gD a.N.g i) (AD a.N.r.length λ (i :
 Nat) => gD a.N.r i)) = (0 : Int) /\ (AO (NetL.mk (AD a.N.g.length λ (i : Nat) => gD a.N.g i) (AD a.N.r.length λ (i : Nat) => gD a.N.r i))).isSome = true /\ ((0 : Int) < BK (NetL.mk (AD a.N.g.length λ (i :
 Nat) => gD a.N.g i) (AD a.N.r.length λ (i : Nat) => gD a.N.r i)) -> False)) /\ ((0 : Nat) = (0 : Nat) /\ (AD (AB (NetL.mk (AD a.N.g.length λ (i : Nat) => gD a.N.g i) (AD a.N.r.length λ (i : Nat) => gD a.N.r
 i))).all.length λ (i : Nat) => gD (AB (NetL.mk (AD a.N.g.length λ (i : Nat) => gD a.N.g i) (AD a.N.r.length λ (i : Nat) => gD a.N.r i))).all i).length = (AB (NetL.mk (AD a.N.g.length λ (i : Nat) => gD
 a.N.g i) (AD a.N.r.length λ (i : Nat) => gD a.N.r i))).all.length /\ (↑(AB (NetL.mk (AD a.N.g.length λ (i : Nat) => gD a.N.g i) (AD a.N.r.length λ (i : Nat) => gD a.N.r i))).out : Int) = (↑(AB (NetL.mk (AD
 a.N.g.length λ (i : Nat) => gD a.N.g i) (AD a.N.r.length λ (i : Nat) => gD a.N.r i))).out : Int) /\ (↑(AB (NetL.mk (AD a.N.g.length λ (i : Nat) => gD a.N.g i) (AD a.N.r.length λ (i : Nat) => gD a.N.r i))).nR
 : Int) = (↑(AB (NetL.mk (AD a.N.g.length λ (i : Nat) => gD a.N.g i) (AD a.N.r.length λ (i : Nat) => gD a.N.r i))).nR : Int) /\ (AD (AB (NetL.mk (AD a.N.g.length λ (i : Nat) => gD a.N.g i) (AD a.N.r.length
 λ (i : Nat) => gD a.N.r i))).all.length λ (i : Nat) => gD (AB (NetL.mk (AD a.N.g.length λ (i : Nat) => gD a.N.g i) (AD a.N.r.length λ (i : Nat) => gD a.N.r i))).all i).length = (AB (NetL.mk (AD
 a.N.g.length λ (i : Nat) => gD a.N.g i) (AD a.N.r.length λ (i : Nat) => gD a.N.r i))).all.length /\ (∀ (i : Nat), i < (AD (AB (NetL.mk (AD a.N.g.length λ (i : Nat) => gD a.N.g i) (AD a.N.r.length λ (i : Nat)
 => gD a.N.r i))).all.length λ (i : Nat) => gD (AB (NetL.mk (AD a.N.g.length λ (i : Nat) => gD a.N.g i) (AD a.N.r.length λ (i : Nat) => gD a.N.r i))).all i).length -> (gD (AD (AB (NetL.mk (AD a.N.g.length fun
 (i : Nat) => gD a.N.g i) (AD a.N.r.length λ (i : Nat) => gD a.N.r i))).all.length λ (i : Nat) => gD (AB (NetL.mk (AD a.N.g.length λ (i : Nat) => gD a.N.g i) (AD a.N.r.length λ (i : Nat) => gD a.N.r i))).all
 i) i).fr = (gD (AB (NetL.mk (AD a.N.g.length λ (i : Nat) => gD a.N.g i) (AD a.N.r.length λ (i : Nat) => gD a.N.r i))).all i).fr /\ (gD (AD (AB (NetL.mk (AD a.N.g.length λ (i : Nat) => gD a.N.g i) (AD
 a.N.r.length λ (i : Nat) => gD a.N.r i))).all.length λ (i : Nat) => gD (AB (NetL.mk (AD a.N.g.length λ (i : Nat) => gD a.N.g i) (AD a.N.r.length λ (i : Nat) => gD a.N.r i))).all i) i).to = (gD (AB (NetL.mk
 (AD a.N.g.length λ (i : Nat) => gD a.N.g i) (AD a.N.r.length λ (i : Nat) => gD a.N.r i))).all i).to /\ (gD (AD (AB (NetL.mk (AD a.N.g.length λ (i : Nat) => gD a.N.g i) (AD a.N.r.length λ (i : Nat) => gD
 a.N.r i))).all.length λ (i : Nat) => gD (AB (NetL.mk (AD a.N.g.length λ (i : Nat) => gD a.N.g i) (AD a.N.r.length λ (i : Nat) => gD a.N.r i))).all i) i).sp.lo = (gD (AB (NetL.mk (AD a.N.g.length λ (i :
 Nat) => gD a.N.g i) (AD a.N.r.length λ (i : Nat) => gD a.N.r i))).all i).sp.lo /\ (gD (AD (AB (NetL.mk (AD a.N.g.length λ (i : Nat) => gD a.N.g i) (AD a.N.r.length λ (i : Nat) => gD a.N.r i))).all.length fun
 (i : Nat) => gD (AB (NetL.mk (AD a.N.g.length λ (i : Nat) => gD a.N.g i) (AD a.N.r.length λ (i : Nat) => gD a.N.r i))).all i) i).sp.hi = (gD (AB (NetL.mk (AD a.N.g.length λ (i : Nat) => gD a.N.g i) (AD
 a.N.r.length λ (i : Nat) => gD a.N.r i))).all i).sp.hi /\ (gD (AD (AB (NetL.mk (AD a.N.g.length λ (i : Nat) => gD a.N.g i) (AD a.N.r.length λ (i : Nat) => gD a.N.r i))).all.length λ (i : Nat) => gD (AB
 (NetL.mk (AD a.N.g.length λ (i : Nat) => gD a.N.g i) (AD a.N.r.length λ (i : Nat) => gD a.N.r i))).all i) i).now = (gD (AB (NetL.mk (AD a.N.g.length λ (i : Nat) => gD a.N.g i) (AD a.N.r.length λ (i : Nat)
 => gD a.N.r i))).all i).now) /\ (0 : Nat) = (0 : Nat) /\ (AB (NetL.mk (AD a.N.g.length λ (i : Nat) => gD a.N.g i) (AD a.N.r.length λ (i : Nat) => gD a.N.r i))).all.length = (AD (AB (NetL.mk (AD a.N.g.length fun
 (i : Nat) => gD a.N.g i) (AD a.N.r.length λ (i : Nat) => gD a.N.r i))).all.length λ (i : Nat) => gD (AB (NetL.mk (AD a.N.g.length λ (i : Nat) => gD a.N.g i) (AD a.N.r.length λ (i : Nat) => gD a.N.r i))).all
 i).length /\ (↑(AB (NetL.mk (AD a.N.g.length λ (i : Nat) => gD a.N.g i) (AD a.N.r.length λ (i : Nat) => gD a.N.r i))).out : Int) = (↑(AB (NetL.mk (AD a.N.g.length λ (i : Nat) => gD a.N.g i) (AD a.N.r.length
 λ (i : Nat) => gD a.N.r i))).out : Int) /\ (↑(AB (NetL.mk (AD a.N.g.length λ (i : Nat) => gD a.N.g i) (AD a.N.r.length λ (i : Nat) => gD a.N.r i))).nR : Int) = (↑(AB (NetL.mk (AD a.N.g.length λ (i : Nat) =>
 gD a.N.g i) (AD a.N.r.length λ (i : Nat) => gD a.N.r i))).nR : Int) /\ (AB (NetL.mk (AD a.N.g.length λ (i : Nat) => gD a.N.g i) (AD a.N.r.length λ (i : Nat) => gD a.N.r i))).all.length = (AD (AB (NetL.mk
 (AD a.N.g.length λ (i : Nat) => gD a.N.g i) (AD a.N.r.length λ (i : Nat) => gD a.N.r i))).all.length λ (i : Nat) => gD (AB (NetL.mk (AD a.N.g.length λ (i : Nat) => gD a.N.g i) (AD a.N.r.length λ (i : Nat)
 => gD a.N.r i))).all i).length /\ (∀ (i : Nat), i < (AB (NetL.mk (AD a.N.g.length λ (i : Nat) => gD a.N.g i) (AD a.N.r.length λ (i : Nat) => gD a.N.r i))).all.length -> (gD (AB (NetL.mk (AD a.N.g.length λ (i :
 Nat) => gD a.N.g i) (AD a.N.r.length λ (i : Nat) => gD a.N.r i))).all i).fr = (gD (AD (AB (NetL.mk (AD a.N.g.length λ (i : Nat) => gD a.N.g i) (AD a.N.r.length λ (i : Nat) => gD a.N.r i))).all.length λ (i :
 Nat) => gD (AB (NetL.mk (AD a.N.g.length λ (i : Nat) => gD a.N.g i) (AD a.N.r.length λ (i : Nat) => gD a.N.r i))).all i) i).fr /\ (gD (AB (NetL.mk (AD a.N.g.length λ (i : Nat) => gD a.N.g i) (AD a.N.r.length
 λ (i : Nat) => gD a.N.r i))).all i).to = (gD (AD (AB (NetL.mk (AD a.N.g.length λ (i : Nat) => gD a.N.g i) (AD a.N.r.length λ (i : Nat) => gD a.N.r i))).all.length λ (i : Nat) => gD (AB (NetL.mk (AD
 a.N.g.length λ (i : Nat) => gD a.N.g i) (AD a.N.r.length λ (i : Nat) => gD a.N.r i))).all i) i).to /\ (gD (AB (NetL.mk (AD a.N.g.length λ (i : Nat) => gD a.N.g i) (AD a.N.r.length λ (i : Nat) => gD a.N.r
 i))).all i).sp.lo = (gD (AD (AB (NetL.mk (AD a.N.g.length λ (i : Nat) => gD a.N.g i) (AD a.N.r.length λ (i : Nat) => gD a.N.r i))).all.length λ (i : Nat) => gD (AB (NetL.mk (AD a.N.g.length λ (i : Nat) =>
 gD a.N.g i) (AD a.N.r.length λ (i : Nat) => gD a.N.r i))).all i) i).sp.lo /\ (gD (AB (NetL.mk (AD a.N.g.length λ (i : Nat) => gD a.N.g i) (AD a.N.r.length λ (i : Nat) => gD a.N.r i))).all i).sp.hi = (gD (AD
 (AB (NetL.mk (AD a.N.g.length λ (i : Nat) => gD a.N.g i) (AD a.N.r.length λ (i : Nat) => gD a.N.r i))).all.length λ (i : Nat) => gD (AB (NetL.mk (AD a.N.g.length λ (i : Nat) => gD a.N.g i) (AD
 a.N.r.length λ (i : Nat) => gD a.N.r i))).all i) i).sp.hi /\ (gD (AB (NetL.mk (AD a.N.g.length λ (i : Nat) => gD a.N.g i) (AD a.N.r.length λ (i : Nat) => gD a.N.r i))).all i).now = (gD (AD (AB (NetL.mk (AD
 a.N.g.length λ (i : Nat) => gD a.N.g i) (AD a.N.r.length λ (i : Nat) => gD a.N.r i))).all.length λ (i : Nat) => gD (AB (NetL.mk (AD a.N.g.length λ (i : Nat) => gD a.N.g i) (AD a.N.r.length λ (i : Nat) =>
 gD a.N.r i))).all i) i).now) /\ (0 : Nat) < (AD (AB (NetL.mk (AD a.N.g.length λ (i : Nat) => gD a.N.g i) (AD a.N.r.length λ (i : Nat) => gD a.N.r i))).all.length λ (i : Nat) => gD (AB (NetL.mk (AD
 a.N.g.length λ (i : Nat) => gD a.N.g i) (AD a.N.r.length λ (i : Nat) => gD a.N.r i))).all i).length /\ (AD (AB (NetL.mk (AD a.N.g.length λ (i : Nat) => gD a.N.g i) (AD a.N.r.length λ (i : Nat) => gD a.N.r
 i))).all.length λ (i : Nat) => gD (AB (NetL.mk (AD a.N.g.length λ (i : Nat) => gD a.N.g i) (AD a.N.r.length λ (i : Nat) => gD a.N.r i))).all i).length <= (1000 : Nat)) /\ (∃ (a_3 : GK), (wr ((↑(AB a.N).out :
 Int) + (1 : Int)) = IntKind.i64.wrap ((↑(AB (NetL.mk (AD a.N.g.length λ (i : Nat) => gD a.N.g i) (AD a.N.r.length λ (i : Nat) => gD a.N.r i))).out : Int) + (1 : Int)) /\ (↑(AB a.N).all.length : Int) = (↑(AD
 (AB (NetL.mk (AD a.N.g.length λ (i : Nat) => gD a.N.g i) (AD a.N.r.length λ (i : Nat) => gD a.N.r i))).all.length λ (i : Nat) => gD (AB (NetL.mk (AD a.N.g.length λ (i : Nat) => gD a.N.g i) (AD
 a.N.r.length λ (i : Nat) => gD a.N.r i))).all i).length : Int) /\ a_3.total = (0 : Int) /\ a.st.length = a.st.length /\ (∀ (i : Nat), i < a.st.length -> gD a.st i = gD a.st i) /\ (↑a.st.length : Int) = (↑a.st.length : Int)
 /\ (↑a_3.k : Int) = (0 : Int) /\ Int.ofNat (0 : Nat) = Int.ofNat (0 : Nat) /\ Int.ofNat (0 : Nat) = Int.ofNat (0 : Nat) /\ (0 : Nat) = (0 : Nat) /\ a_3.all.length = (AD (AB (NetL.mk (AD a.N.g.length λ (i : Nat) => gD
 a.N.g i) (AD a.N.r.length λ (i : Nat) => gD a.N.r i))).all.length λ (i : Nat) => gD (AB (NetL.mk (AD a.N.g.length λ (i : Nat) => gD a.N.g i) (AD a.N.r.length λ (i : Nat) => gD a.N.r i))).all i).length /\
 (↑(AB a.N).out : Int) = (↑(AB (NetL.mk (AD a.N.g.length λ (i : Nat) => gD a.N.g i) (AD a.N.r.length λ (i : Nat) => gD a.N.r i))).out : Int) /\ (↑(AB a.N).nR : Int) = (↑(AB (NetL.mk (AD a.N.g.length λ (i :
 Nat) => gD a.N.g i) (AD a.N.r.length λ (i : Nat) => gD a.N.r i))).nR : Int) /\ a_3.all.length = (AD (AB (NetL.mk (AD a.N.g.length λ (i : Nat) => gD a.N.g i) (AD a.N.r.length λ (i : Nat) => gD a.N.r
 i))).all.length λ (i : Nat) => gD (AB (NetL.mk (AD a.N.g.length λ (i : Nat) => gD a.N.g i) (AD a.N.r.length λ (i : Nat) => gD a.N.r i))).all i).length /\ ∀ (i : Nat), i < a_3.all.length -> (gD a_3.all i).fr = (gD
 (AD (AB (NetL.mk (AD a.N.g.length λ (i : Nat) => gD a.N.g i) (AD a.N.r.length λ (i : Nat) => gD a.N.r i))).all.length λ (i : Nat) => gD (AB (NetL.mk (AD a.N.g.length λ (i : Nat) => gD a.N.g i) (AD
 a.N.r.length λ (i : Nat) => gD a.N.r i))).all i) i).fr /\ (gD a_3.all i).to = (gD (AD (AB (NetL.mk (AD a.N.g.length λ (i : Nat) => gD a.N.g i) (AD a.N.r.length λ (i : Nat) => gD a.N.r i))).all.length λ (i :
 Nat) => gD (AB (NetL.mk (AD a.N.g.length λ (i : Nat) => gD a.N.g i) (AD a.N.r.length λ (i : Nat) => gD a.N.r i))).all i) i).to /\ (gD a_3.all i).sp.lo = (gD (AD (AB (NetL.mk (AD a.N.g.length λ (i : Nat) =>
 gD a.N.g i) (AD a.N.r.length λ (i : Nat) => gD a.N.r i))).all.length λ (i : Nat) => gD (AB (NetL.mk (AD a.N.g.length λ (i : Nat) => gD a.N.g i) (AD a.N.r.length λ (i : Nat) => gD a.N.r i))).all i) i).sp.lo /\
 (gD a_3.all i).sp.hi = (gD (AD (AB (NetL.mk (AD a.N.g.length λ (i : Nat) => gD a.N.g i) (AD a.N.r.length λ (i : Nat) => gD a.N.r i))).all.length λ (i : Nat) => gD (AB (NetL.mk (AD a.N.g.length λ (i : Nat)
 => gD a.N.g i) (AD a.N.r.length λ (i : Nat) => gD a.N.r i))).all i) i).sp.hi /\ (gD a_3.all i).now = (gD (AD (AB (NetL.mk (AD a.N.g.length λ (i : Nat) => gD a.N.g i) (AD a.N.r.length λ (i : Nat) => gD a.N.r
 i))).all.length λ (i : Nat) => gD (AB (NetL.mk (AD a.N.g.length λ (i : Nat) => gD a.N.g i) (AD a.N.r.length λ (i : Nat) => gD a.N.r i))).all i) i).now) /\ a_3.k <= a.st.length /\ a_3.all.length = (AB
 a.N).all.length /\ DD (AB a.N).out (AB a.N).nR (List.drop a_3.k a.st) a_3.all a_3.total = DD (AB a.N).out (AB a.N).nR a.st (AB a.N).all (0 : Int)) /\ ∀ (a_3 : GK), a_3.k <= a.st.length /\ a_3.all.length =
 (AB a.N).all.length /\ DD (AB a.N).out (AB a.N).nR (List.drop a_3.k a.st) a_3.all a_3.total = DD (AB a.N).out (AB a.N).nR a.st (AB a.N).all (0 : Int) -> bif decide ((↑a_3.k : Int) < (↑a.st.length :
 Int)) then ((0 : Int) <= (↑a_3.k : Int) /\ (↑a_3.k : Int) < (↑a.st.length : Int)) /\ ((0 : Int) <= IntKind.i64.wrap ((↑(AB a.N).nR : Int) + gD a.st a_3.k) /\ IntKind.i64.wrap ((↑(AB a.N).nR : Int) + gD a.st a_3.k) <
 (↑a_3.all.length : Int)) /\ ((0 : Nat) + (IntKind.i64.wrap ((↑(AB a.N).nR : Int) + gD a.st a_3.k)).toNat).succ.le a_3.all.length /\ ((0 : Nat) + (IntKind.i64.wrap ((↑(AB a.N).nR : Int) + gD a.st a_3.k)).toNat).succ.le
 a_3.all.length /\ ∃ (a_5 : GK), (wr ((↑(AB a.N).out : Int) + (1 : Int)) = wr ((↑(AB a.N).out : Int) + (1 : Int)) /\ (↑(AB a.N).all.length : Int) = (↑(AB a.N).all.length : Int) /\ a_5.total = IntKind.i64.wrap
 (a_3.total + bif decide ((0 : Nat) + (IntKind.i64.wrap ((↑(AB a.N).nR : Int) + gD a.st a_3.k)).toNat = (0 : Nat) + (IntKind.i64.wrap ((↑(AB a.N).nR : Int) + gD a.st a_3.k)).toNat) then (gD a_3.all ((0 : Nat) +
 (IntKind.i64.wrap ((↑(AB a.N).nR : Int) + gD a.st a_3.k)).toNat)).now else (gD a_3.all ((0 : Nat) + (IntKind.i64.wrap ((↑(AB a.N).nR : Int) + gD a.st a_3.k)).toNat)).now) /\ a.st.length = a.st.length /\ (∀ (i : Nat), i
 < a.st.length -> gD a.st i = gD a.st i) /\ (↑a.st.length : Int) = (↑a.st.length : Int) /\ (↑a_5.k : Int) = IntKind.i64.wrap ((↑a_3.k : Int) + (1 : Int)) /\ Int.ofNat (0 : Nat) = Int.ofNat (0 : Nat) /\ Int.ofNat (0 : Nat) =
 Int.ofNat (0 : Nat) /\ (0 : Nat) = (0 : Nat) /\ a_5.all.length = a_3.all.length /\ (↑(AB a.N).out : Int) = (↑(AB a.N).out : Int) /\ (↑(AB a.N).nR : Int) = (↑(AB a.N).nR : Int) /\ a_5.all.length = a_3.all.length /\ ∀ (i
 : Nat), i < a_5.all.length -> ((gD a_5.all i).fr = bif decide (i = (0 : Nat) + (IntKind.i64.wrap ((↑(AB a.N).nR : Int) + gD a.st a_3.k)).toNat) then wr ((↑(AB a.N).out : Int) + (1 : Int)) else (gD a_3.all i).fr) /\
 ((gD a_5.all i).to = bif decide (i = (0 : Nat) + (IntKind.i64.wrap ((↑(AB a.N).nR : Int) + gD a.st a_3.k)).toNat) then (gD a_3.all ((0 : Nat) + (IntKind.i64.wrap ((↑(AB a.N).nR : Int) + gD a.st a_3.k)).toNat)).to
 else (gD a_3.all i).to) /\ ((gD a_5.all i).sp.lo = bif decide (i = (0 : Nat) + (IntKind.i64.wrap ((↑(AB a.N).nR : Int) + gD a.st a_3.k)).toNat) then (gD a_3.all ((0 : Nat) + (IntKind.i64.wrap ((↑(AB a.N).nR : Int) +
 gD a.st a_3.k)).toNat)).sp.lo else (gD a_3.all i).sp.lo) /\ ((gD a_5.all i).sp.hi = bif decide (i = (0 : Nat) + (IntKind.i64.wrap ((↑(AB a.N).nR : Int) + gD a.st a_3.k)).toNat) then (gD a_3.all ((0 : Nat) +
 (IntKind.i64.wrap ((↑(AB a.N).nR : Int) + gD a.st a_3.k)).toNat)).sp.hi else (gD a_3.all i).sp.hi) /\ (gD a_5.all i).now = bif decide (i = (0 : Nat) + (IntKind.i64.wrap ((↑(AB a.N).nR : Int) + gD a.st a_3.k)).toNat)
 then (gD a_3.all ((0 : Nat) + (IntKind.i64.wrap ((↑(AB a.N).nR : Int) + gD a.st a_3.k)).toNat)).now else (gD a_3.all i).now) /\ (a_5.k <= a.st.length /\ a_5.all.length = (AB a.N).all.length /\ DD (AB a.N).out (AB
 a.N).nR (List.drop a_5.k a.st) a_5.all a_5.total = DD (AB a.N).out (AB a.N).nR a.st (AB a.N).all (0 : Int)) /\ a.st.length - a_5.k < a.st.length - a_3.k else (((0 : Int) <= (0 : Int) /\ (0 : Int) <= (↑(AB
 a.N).all.length : Int) /\ (↑(AB a.N).all.length : Int) = (↑(AB a.N).all.length : Int) /\ (↑(AB a.N).all.length : Int) <= (↑a_3.all.length : Int) /\ a_3.all.length <= a_3.all.length) /\ (True /\ ((0 : Nat) < (AB
 a.N).all.length - (0 : Nat) -> (5 : Nat) = (5 : Nat))) /\ ((1 : Nat) <= (1 : Nat) /\ ((0 : Nat) < (1 : Nat) -> (5 : Nat) = (5 : Nat))) /\ (true = true -> (0 : Nat) < (1 : Nat)) /\ (AB a.N).all.length - (0 : Nat) + (1 : Nat) <=
 (9223372036854775807 : Nat) /\ ((AB a.N).all.length - (0 : Nat) + (1 : Nat)) * (40 : Nat) <= (140737488355328 : Nat)) /\ ((↑(AB a.N).all.length : Int) = (↑(AB a.N).all.length : Int) /\ (0 : Nat) = (0 : Nat) /\ (AD
 ((AB a.N).all.length - Int.toNat (0 : Int) + (1 : Nat)) λ (i : Nat) => IT (HS ((AB a.N).all.length - Int.toNat (0 : Int)) (λ (i : Nat) => KE (gD a_3.all (Int.toNat (0 : Int) + i))) (λ (i : Nat) => FD
 [Sym.elemOf [DVal.v (Value.int IntKind.i64 (↑(AB a.N).out : Int)), DVal.v (Value.int IntKind.i64 (wr ((↑(AB a.N).out : Int) + (1 : Int)))), IS (Value.int IntKind.i64 (-100000000 : Int)), IS (Value.int IntKind.i64
 (100000000 : Int)), DVal.v (Value.int IntKind.i64 a_3.total)]] ((0 : Nat) + i)) i)).length = (AB a.N).all.length - Int.toNat (0 : Int) + (1 : Nat) /\ (↑(AB a.N).out : Int) = (↑(AB a.N).out : Int) /\ (↑(AB a.N).nR :
 Int) = (↑(AB a.N).nR : Int) /\ (AD ((AB a.N).all.length - Int.toNat (0 : Int) + (1 : Nat)) λ (i : Nat) => IT (HS ((AB a.N).all.length - Int.toNat (0 : Int)) (λ (i : Nat) => KE (gD a_3.all (Int.toNat (0 :
 Int) + i))) (λ (i : Nat) => FD [Sym.elemOf [DVal.v (Value.int IntKind.i64 (↑(AB a.N).out : Int)), DVal.v (Value.int IntKind.i64 (wr ((↑(AB a.N).out : Int) + (1 : Int)))), IS (Value.int IntKind.i64 (-100000000 :
 Int)), IS (Value.int IntKind.i64 (100000000 : Int)), DVal.v (Value.int IntKind.i64 a_3.total)]] ((0 : Nat) + i)) i)).length = (AB a.N).all.length - Int.toNat (0 : Int) + (1 : Nat) /\ (∀ (i : Nat), i < (AD ((AB
 a.N).all.length - (0 : Nat) + (1 : Nat)) λ (i : Nat) => IT (HS ((AB a.N).all.length - (0 : Nat)) (λ (i : Nat) => KE (gD a_3.all ((0 : Nat) + i))) (λ (i : Nat) => FD [Sym.elemOf [DVal.v (Value.int
 IntKind.i64 (↑(AB a.N).out : Int)), DVal.v (Value.int IntKind.i64 (wr ((↑(AB a.N).out : Int) + (1 : Int)))), IS (Value.int IntKind.i64 (-100000000 : Int)), IS (Value.int IntKind.i64 (100000000 : Int)), DVal.v
 (Value.int IntKind.i64 a_3.total)]] ((0 : Nat) + i)) i)).length -> ((gD (AD ((AB a.N).all.length - Int.toNat (0 : Int) + (1 : Nat)) λ (i : Nat) => IT (HS ((AB a.N).all.length - Int.toNat (0 : Int)) (λ (i :
 Nat) => KE (gD a_3.all (Int.toNat (0 : Int) + i))) (λ (i : Nat) => FD [Sym.elemOf [DVal.v (Value.int IntKind.i64 (↑(AB a.N).out : Int)), DVal.v (Value.int IntKind.i64 (wr ((↑(AB a.N).out : Int) + (1 : Int)))),
 IS (Value.int IntKind.i64 (-100000000 : Int)), IS (Value.int IntKind.i64 (100000000 : Int)), DVal.v (Value.int IntKind.i64 a_3.total)]] ((0 : Nat) + i)) i)) i).fr = bif decide (i < (AB a.N).all.length - Int.toNat (0
 : Int)) then (gD a_3.all (Int.toNat (0 : Int) + i)).fr else (↑(AB a.N).out : Int)) /\ ((gD (AD ((AB a.N).all.length - Int.toNat (0 : Int) + (1 : Nat)) λ (i : Nat) => IT (HS ((AB a.N).all.length - Int.toNat (0
 : Int)) (λ (i : Nat) => KE (gD a_3.all (Int.toNat (0 : Int) + i))) (λ (i : Nat) => FD [Sym.elemOf [DVal.v (Value.int IntKind.i64 (↑(AB a.N).out : Int)), DVal.v (Value.int IntKind.i64 (wr ((↑(AB a.N).out :
 Int) + (1 : Int)))), IS (Value.int IntKind.i64 (-100000000 : Int)), IS (Value.int IntKind.i64 (100000000 : Int)), DVal.v (Value.int IntKind.i64 a_3.total)]] ((0 : Nat) + i)) i)) i).to = bif decide (i < (AB
 a.N).all.length - Int.toNat (0 : Int)) then (gD a_3.all (Int.toNat (0 : Int) + i)).to else wr ((↑(AB a.N).out : Int) + (1 : Int))) /\ ((gD (AD ((AB a.N).all.length - Int.toNat (0 : Int) + (1 : Nat)) λ (i : Nat) =>
 IT (HS ((AB a.N).all.length - Int.toNat (0 : Int)) (λ (i : Nat) => KE (gD a_3.all (Int.toNat (0 : Int) + i))) (λ (i : Nat) => FD [Sym.elemOf [DVal.v (Value.int IntKind.i64 (↑(AB a.N).out : Int)), DVal.v
 (Value.int IntKind.i64 (wr ((↑(AB a.N).out : Int) + (1 : Int)))), IS (Value.int IntKind.i64 (-100000000 : Int)), IS (Value.int IntKind.i64 (100000000 : Int)), DVal.v (Value.int IntKind.i64 a_3.total)]] ((0 : Nat) +
 i)) i)) i).sp.lo = bif decide (i < (AB a.N).all.length - Int.toNat (0 : Int)) then (gD a_3.all (Int.toNat (0 : Int) + i)).sp.lo else (-100000000 : Int)) /\ ((gD (AD ((AB a.N).all.length - Int.toNat (0 : Int) + (1 :
 Nat)) λ (i : Nat) => IT (HS ((AB a.N).all.length - Int.toNat (0 : Int)) (λ (i : Nat) => KE (gD a_3.all (Int.toNat (0 : Int) + i))) (λ (i : Nat) => FD [Sym.elemOf [DVal.v (Value.int IntKind.i64 (↑(AB
 a.N).out : Int)), DVal.v (Value.int IntKind.i64 (wr ((↑(AB a.N).out : Int) + (1 : Int)))), IS (Value.int IntKind.i64 (-100000000 : Int)), IS (Value.int IntKind.i64 (100000000 : Int)), DVal.v (Value.int IntKind.i64
 a_3.total)]] ((0 : Nat) + i)) i)) i).sp.hi = bif decide (i < (AB a.N).all.length - Int.toNat (0 : Int)) then (gD a_3.all (Int.toNat (0 : Int) + i)).sp.hi else (100000000 : Int)) /\ (gD (AD ((AB a.N).all.length -
 Int.toNat (0 : Int) + (1 : Nat)) λ (i : Nat) => IT (HS ((AB a.N).all.length - Int.toNat (0 : Int)) (λ (i : Nat) => KE (gD a_3.all (Int.toNat (0 : Int) + i))) (λ (i : Nat) => FD [Sym.elemOf [DVal.v
 (Value.int IntKind.i64 (↑(AB a.N).out : Int)), DVal.v (Value.int IntKind.i64 (wr ((↑(AB a.N).out : Int) + (1 : Int)))), IS (Value.int IntKind.i64 (-100000000 : Int)), IS (Value.int IntKind.i64 (100000000 : Int)),
 DVal.v (Value.int IntKind.i64 a_3.total)]] ((0 : Nat) + i)) i)) i).now = bif decide (i < (AB a.N).all.length - Int.toNat (0 : Int)) then (gD a_3.all (Int.toNat (0 : Int) + i)).now else a_3.total) /\ (0 : Nat) = (0 :
 Nat) /\ (AB a.N).all.length - Int.toNat (0 : Int) + (1 : Nat) = (AD ((AB a.N).all.length - Int.toNat (0 : Int) + (1 : Nat)) λ (i : Nat) => IT (HS ((AB a.N).all.length - Int.toNat (0 : Int)) (λ (i : Nat) =>
 KE (gD a_3.all (Int.toNat (0 : Int) + i))) (λ (i : Nat) => FD [Sym.elemOf [DVal.v (Value.int IntKind.i64 (↑(AB a.N).out : Int)), DVal.v (Value.int IntKind.i64 (wr ((↑(AB a.N).out : Int) + (1 : Int)))), IS
 (Value.int IntKind.i64 (-100000000 : Int)), IS (Value.int IntKind.i64 (100000000 : Int)), DVal.v (Value.int IntKind.i64 a_3.total)]] ((0 : Nat) + i)) i)).length /\ (↑(AB a.N).out : Int) = (↑(AB a.N).out : Int) /\
 (↑(AB a.N).nR : Int) = (↑(AB a.N).nR : Int) /\ (AB a.N).all.length - Int.toNat (0 : Int) + (1 : Nat) = (AD ((AB a.N).all.length - Int.toNat (0 : Int) + (1 : Nat)) λ (i : Nat) => IT (HS ((AB
 a.N).all.length - Int.toNat (0 : Int)) (λ (i : Nat) => KE (gD a_3.all (Int.toNat (0 : Int) + i))) (λ (i : Nat) => FD [Sym.elemOf [DVal.v (Value.int IntKind.i64 (↑(AB a.N).out : Int)), DVal.v (Value.int
 IntKind.i64 (wr ((↑(AB a.N).out : Int) + (1 : Int)))), IS (Value.int IntKind.i64 (-100000000 : Int)), IS (Value.int IntKind.i64 (100000000 : Int)), DVal.v (Value.int IntKind.i64 a_3.total)]] ((0 : Nat) + i))
 i)).length /\ (∀ (i : Nat), i < (AB a.N).all.length - (0 : Nat) + (1 : Nat) -> (bif decide (i < (AB a.N).all.length - Int.toNat (0 : Int)) then (gD a_3.all (Int.toNat (0 : Int) + i)).fr else (↑(AB a.N).out : Int)) =
 (gD (AD ((AB a.N).all.length - Int.toNat (0 : Int) + (1 : Nat)) λ (i : Nat) => IT (HS ((AB a.N).all.length - Int.toNat (0 : Int)) (λ (i : Nat) => KE (gD a_3.all (Int.toNat (0 : Int) + i))) (λ (i : Nat)
 => FD [Sym.elemOf [DVal.v (Value.int IntKind.i64 (↑(AB a.N).out : Int)), DVal.v (Value.int IntKind.i64 (wr ((↑(AB a.N).out : Int) + (1 : Int)))), IS (Value.int IntKind.i64 (-100000000 : Int)), IS (Value.int
 IntKind.i64 (100000000 : Int)), DVal.v (Value.int IntKind.i64 a_3.total)]] ((0 : Nat) + i)) i)) i).fr /\ (bif decide (i < (AB a.N).all.length - Int.toNat (0 : Int)) then (gD a_3.all (Int.toNat (0 : Int) + i)).to else wr
 ((↑(AB a.N).out : Int) + (1 : Int))) = (gD (AD ((AB a.N).all.length - Int.toNat (0 : Int) + (1 : Nat)) λ (i : Nat) => IT (HS ((AB a.N).all.length - Int.toNat (0 : Int)) (λ (i : Nat) => KE (gD a_3.all
 (Int.toNat (0 : Int) + i))) (λ (i : Nat) => FD [Sym.elemOf [DVal.v (Value.int IntKind.i64 (↑(AB a.N).out : Int)), DVal.v (Value.int IntKind.i64 (wr ((↑(AB a.N).out : Int) + (1 : Int)))), IS (Value.int
 IntKind.i64 (-100000000 : Int)), IS (Value.int IntKind.i64 (100000000 : Int)), DVal.v (Value.int IntKind.i64 a_3.total)]] ((0 : Nat) + i)) i)) i).to /\ (bif decide (i < (AB a.N).all.length - Int.toNat (0 : Int)) then
 (gD a_3.all (Int.toNat (0 : Int) + i)).sp.lo else (-100000000 : Int)) = (gD (AD ((AB a.N).all.length - Int.toNat (0 : Int) + (1 : Nat)) λ (i : Nat) => IT (HS ((AB a.N).all.length - Int.toNat (0 : Int)) (λ (i
 : Nat) => KE (gD a_3.all (Int.toNat (0 : Int) + i))) (λ (i : Nat) => FD [Sym.elemOf [DVal.v (Value.int IntKind.i64 (↑(AB a.N).out : Int)), DVal.v (Value.int IntKind.i64 (wr ((↑(AB a.N).out : Int) + (1 :
 Int)))), IS (Value.int IntKind.i64 (-100000000 : Int)), IS (Value.int IntKind.i64 (100000000 : Int)), DVal.v (Value.int IntKind.i64 a_3.total)]] ((0 : Nat) + i)) i)) i).sp.lo /\ (bif decide (i < (AB a.N).all.length -
 Int.toNat (0 : Int)) then (gD a_3.all (Int.toNat (0 : Int) + i)).sp.hi else (100000000 : Int)) = (gD (AD ((AB a.N).all.length - Int.toNat (0 : Int) + (1 : Nat)) λ (i : Nat) => IT (HS ((AB a.N).all.length -
 Int.toNat (0 : Int)) (λ (i : Nat) => KE (gD a_3.all (Int.toNat (0 : Int) + i))) (λ (i : Nat) => FD [Sym.elemOf [DVal.v (Value.int IntKind.i64 (↑(AB a.N).out : Int)), DVal.v (Value.int IntKind.i64 (wr ((↑(AB
 a.N).out : Int) + (1 : Int)))), IS (Value.int IntKind.i64 (-100000000 : Int)), IS (Value.int IntKind.i64 (100000000 : Int)), DVal.v (Value.int IntKind.i64 a_3.total)]] ((0 : Nat) + i)) i)) i).sp.hi /\ (bif decide (i <
 (AB a.N).all.length - Int.toNat (0 : Int)) then (gD a_3.all (Int.toNat (0 : Int) + i)).now else a_3.total) = (gD (AD ((AB a.N).all.length - Int.toNat (0 : Int) + (1 : Nat)) λ (i : Nat) => IT (HS ((AB
 a.N).all.length - Int.toNat (0 : Int)) (λ (i : Nat) => KE (gD a_3.all (Int.toNat (0 : Int) + i))) (λ (i : Nat) => FD [Sym.elemOf [DVal.v (Value.int IntKind.i64 (↑(AB a.N).out : Int)), DVal.v (Value.int
 IntKind.i64 (wr ((↑(AB a.N).out : Int) + (1 : Int)))), IS (Value.int IntKind.i64 (-100000000 : Int)), IS (Value.int IntKind.i64 (100000000 : Int)), DVal.v (Value.int IntKind.i64 a_3.total)]] ((0 : Nat) + i)) i))
 i).now) /\ (Desk.mk (AD ((AB a.N).all.length - Int.toNat (0 : Int) + (1 : Nat)) λ (i : Nat) => IT (HS ((AB a.N).all.length - Int.toNat (0 : Int)) (λ (i : Nat) => KE (gD a_3.all (Int.toNat (0 : Int) + i)))
 (λ (i : Nat) => FD [Sym.elemOf [DVal.v (Value.int IntKind.i64 (↑(AB a.N).out : Int)), DVal.v (Value.int IntKind.i64 (wr ((↑(AB a.N).out : Int) + (1 : Int)))), IS (Value.int IntKind.i64 (-100000000 : Int)), IS
 (Value.int IntKind.i64 (100000000 : Int)), DVal.v (Value.int IntKind.i64 a_3.total)]] ((0 : Nat) + i)) i)) (AB a.N).out (AB a.N).nR).ok /\ ((0 : Int) <= (↑(AB a.N).all.length : Int) /\ (↑(AB a.N).all.length : Int) <
 (↑(AD ((AB a.N).all.length - (0 : Nat) + (1 : Nat)) λ (i : Nat) => IT (HS ((AB a.N).all.length - (0 : Nat)) (λ (i : Nat) => KE (gD a_3.all ((0 : Nat) + i))) (λ (i : Nat) => FD [Sym.elemOf [DVal.v
 (Value.int IntKind.i64 (↑(AB a.N).out : Int)), DVal.v (Value.int IntKind.i64 (wr ((↑(AB a.N).out : Int) + (1 : Int)))), IS (Value.int IntKind.i64 (-100000000 : Int)), IS (Value.int IntKind.i64 (100000000 : Int)),
 DVal.v (Value.int IntKind.i64 a_3.total)]] ((0 : Nat) + i)) i)).length : Int)) /\ (CX (Desk.mk (AD ((AB a.N).all.length - Int.toNat (0 : Int) + (1 : Nat)) λ (i : Nat) => IT (HS ((AB a.N).all.length -
 Int.toNat (0 : Int)) (λ (i : Nat) => KE (gD a_3.all (Int.toNat (0 : Int) + i))) (λ (i : Nat) => FD [Sym.elemOf [DVal.v (Value.int IntKind.i64 (↑(AB a.N).out : Int)), DVal.v (Value.int IntKind.i64 (wr ((↑(AB
 a.N).out : Int) + (1 : Int)))), IS (Value.int IntKind.i64 (-100000000 : Int)), IS (Value.int IntKind.i64 (100000000 : Int)), DVal.v (Value.int IntKind.i64 a_3.total)]] ((0 : Nat) + i)) i)) (AB a.N).out (AB a.N).nR)
 (↑(AB a.N).all.length : Int)).isSome = true) /\ (NB a).lo = ((CX (Desk.mk (AD ((AB a.N).all.length - Int.toNat (0 : Int) + (1 : Nat)) λ (i : Nat) => IT (HS ((AB a.N).all.length - Int.toNat (0 : Int))
 (λ (i : Nat) => KE (gD a_3.all (Int.toNat (0 : Int) + i))) (λ (i : Nat) => FD [Sym.elemOf [DVal.v (Value.int IntKind.i64 (↑(AB a.N).out : Int)), DVal.v (Value.int IntKind.i64 (wr ((↑(AB a.N).out : Int) + (1
 : Int)))), IS (Value.int IntKind.i64 (-100000000 : Int)), IS (Value.int IntKind.i64 (100000000 : Int)), DVal.v (Value.int IntKind.i64 a_3.total)]] ((0 : Nat) + i)) i)) (AB a.N).out (AB a.N).nR) (↑(AB
 a.N).all.length : Int)).getD default).lo /\ (NB a).hi = ((CX (Desk.mk (AD ((AB a.N).all.length - Int.toNat (0 : Int) + (1 : Nat)) λ (i : Nat) => IT (HS ((AB a.N).all.length - Int.toNat (0 : Int)) (λ (i :
 Nat) => KE (gD a_3.all (Int.toNat (0 : Int) + i))) (λ (i : Nat) => FD [Sym.elemOf [DVal.v (Value.int IntKind.i64 (↑(AB a.N).out : Int)), DVal.v (Value.int IntKind.i64 (wr ((↑(AB a.N).out : Int) + (1 : Int)))),
 IS (Value.int IntKind.i64 (-100000000 : Int)), IS (Value.int IntKind.i64 (100000000 : Int)), DVal.v (Value.int IntKind.i64 a_3.total)]] ((0 : Nat) + i)) i)) (AB a.N).out (AB a.N).nR) (↑(AB a.N).all.length :
 Int)).getD default).hi /\ Int.ofNat (0 : Nat) = Int.ofNat (0 : Nat)) := by kernel_rfl
theorem Wh (all : List Way) (n : Nat) (hn : all.length = n) (o g lo hi t : Int) : AD (n - Int.toNat 0 + 1) (λ i => IT (HS (n - Int.toNat 0) (λ i => KE (gD all (Int.toNat 0 + i))) (λ i => FD [Sym.elemOf [DVal.v (Value.int IntKind.i64 o), DVal.v (Value.int IntKind.i64 g), IS (Value.int IntKind.i64 lo), IS (Value.int IntKind.i64 hi), DVal.v (Value.int IntKind.i64 t)]] i) i)) = all ++ [(⟨o, g, ⟨lo, hi⟩, t⟩ : Way)] := by
 subst hn
 apply JX
 ·simp
 ·intro i hi
  simp only [rng_length] at hi
  rw [Jg _ _ _ hi, BO]
  simp only [HS, FV, Int.toNat_zero, Nat.zero_add, Nat.sub_zero]
  by_cases h : i < all.length
  ·rw [if_pos h]; simp [h]
  ·have : i = all.length := by simp at hi; omega
   subst this
   rw [if_neg h]; simp only [h, decide_false, cond_false, Nat.sub_self]; rfl
theorem UH (out nR : Nat) : ∀ (l : List Int) (all : List Way) (t : Int), (DD out nR l all t).1.length = all.length
 | [], _, _ => rfl
 | s :: l, all, t => by simp only [DD]; rw [UH]; simp
theorem YY (out nR : Nat) (ho : out <= 8) : ∀ (l : List Int) (all : List Way) (t : Int), (∀ i, i < all.length -> (0 <= (gD all i).fr /\ (gD all i).fr < out + 2) /\ 0 <= (gD all i).to /\ (gD all i).to < out + 2) ->
  ∀ i, i < all.length -> (0 <= (gD (DD out nR l all t).1 i).fr /\ (gD (DD out nR l all t).1 i).fr < out + 2) /\ 0 <= (gD (DD out nR l all t).1 i).to /\ (gD (DD out nR l all t).1 i).to < out + 2
 | [], _, _, h, i, hi => h i hi
 | s :: l, all, t, h, i, hi => by
  simp only [DD]
  refine YY out nR ho l _ _ (λ j hj => ?_) i (by simpa using hi)
  have hj : j < all.length := by simpa using hj
  by_cases hb : (wr (nR + s)).toNat < all.length
  ·rw [BB hb]
   split
   ·have e : wr ((out : Int) + 1) = out + 1 := CF (by omega) (by omega)
    obtain ⟨_, h2⟩ := h _ hb
    exact ⟨⟨by show 0 <= wr _; rw [e]; omega, by show wr _ < _; rw [e]; omega⟩, h2⟩
   ·exact h j hj
  ·have : all.modify (wr (nR + s)).toNat (λ w => { w with fr := wr (out + 1) }) = all := by
    apply List.ext_getElem?; intro q; rw [List.getElem?_modify]
    by_cases hq : (wr (nR + s)).toNat = q
    ·subst hq; rw [List.getElem?_eq_none (by omega)]; rfl
    ·simp [hq]
   rw [this]; exact h j hj
theorem Gi {d : Desk} (h : d.ok) (hl : d.all.length <= 22) (st : List Int) : (CO d st).ok := by
 have ho := h.out
 have hX : (CO d st).all = (DD d.out d.nR st d.all 0).1 ++ [(⟨d.out, wr (d.out + 1), ⟨-100000000, 100000000⟩, (DD d.out d.nR st d.all 0).2⟩ : Way)] := rfl
 have hO : (CO d st).out = d.out := rfl
 have hR : (CO d st).nR = d.nR := rfl
 have hL : (CO d st).all.length = d.all.length + 1 := by rw [hX, List.length_append, UH]; rfl
 refine ⟨by rw [hO]; exact h.out, by rw [hL]; omega, by rw [hL, hO, hR]; have := h.cut; omega, λ i hi => ?_⟩
 rw [hL] at hi
 rw [hX, hO, BO, UH]
 split
 ·rename_i hlt; exact YY d.out d.nR ho st d.all 0 h.ends i hlt
 ·have : i = d.all.length := by omega
  subst this
  have e : wr ((d.out : Int) + 1) = d.out + 1 := CF (by omega) (by omega)
  rw [Nat.sub_self, e]
  show (0 <= (d.out : Int) /\ (d.out : Int) < d.out + 2) /\ 0 <= (d.out : Int) + 1 /\ (d.out : Int) + 1 < d.out + 2
  omega
theorem Gb {n : Nat} (hn : 1 <= n /\ n <= 8) : ∀ {l : List Int} {last : Int}, -1 <= last -> last <= 100 -> grpBad n last l = false -> ∀ i, i < l.length -> 0 <= gD l i /\ gD l i < n
 | [], _, _, _, _, i, hi => by simp at hi
 | s :: l, last, h0, h1, h, i, hi => by
  simp only [grpBad, Bool.or_eq_false_iff, Bool.not_eq_false'] at h
  obtain ⟨h2, h3⟩ := h
  have h2 := BI.1 h2
  rw [CF (n := last + 1) (by omega) (by omega), CF (n := (n : Int) - 1) (by omega) (by omega)] at h2
  cases i with
  | zero => show 0 <= s /\ s < n; omega
  | succ i => exact Gb hn (by omega) (by omega) h3 i (by simpa using hi)
theorem p35 (a : NGr) (h1 : AC a.N = 0) (h2 : (AO a.N).isSome = true) (h3 : ¬ 0 < BK a.N) (h4 : grpBad a.N.g.length (-1) a.st = false) (h5 : 0 < a.st.length /\ a.st.length <= 1000000) (h6 : (CX (CO (AB a.N) a.st) (AB a.N).all.length).isSome = true) : V35 a := by
 obtain ⟨l1, l2, l3⟩ := GP h2
 have hg := AS h1
 have g1 := hg.g1
 have g8 := hg.g8
 have r14 := hg.r14
 have hok := VW h1 h2
 have hgok := Gi hok (by omega) a.st
 have hin := Gb ⟨g1, g8⟩ (by omega) (by omega) h4
 rw [vc35]; simp only [CC, eq_self, implies_true, forall_const, DL.d6, DL.d7, DL.d8, JY, h1]
 refine ⟨⟨⟨-1, 0⟩, ⟨rfl, rfl⟩, Nat.zero_le _, h4⟩, λ s ⟨q1, q2⟩ => ⟨λ hlt => ⟨⟨by omega, hlt⟩, λ hc => ?_, λ hc => ?_⟩, λ hge => ⟨λ hc => ?_, λ hc => ⟨⟨h2, h3⟩, ⟨by omega, by omega⟩, ⟨⟨(AB a.N).all, 0, 0⟩, ⟨rfl, rfl, rfl, rfl, λ _ _ => ⟨rfl, rfl, rfl, rfl, rfl⟩⟩, Nat.zero_le _, rfl, rfl⟩, λ s ⟨q3, q4, q5⟩ => ⟨λ hlt => ?_, λ hge => ?_⟩⟩⟩⟩⟩
 ·rw [ED (by omega)] at q2
  simp only [grpBad, Bool.or_eq_false_iff, Bool.not_eq_false'] at q2
  have hc : (!inM (gD a.st s.k) (wr (s.last + 1)) (wr ((a.N.g.length : Int) - 1))) = true := hc
  rw [q2.1] at hc; cases hc
 ·rw [ED (by omega)] at q2
  simp only [grpBad, Bool.or_eq_false_iff, Bool.not_eq_false'] at q2
  exact ⟨⟨gD a.st s.k, s.k + 1⟩, ⟨rfl, (AN (by omega)).symm⟩, ⟨by show s.k + 1 <= _; omega, q2.2⟩, by show _ - (s.k + 1) < _; omega⟩
 ·have hc : ((a.st.length : Int) == 0) = true := hc
  have : (a.st.length : Int) = 0 := by simpa using hc
  omega
 ·have hk : s.k < a.st.length := by omega
  obtain ⟨i1, i2⟩ := hin s.k hk
  have e : wr (((AB a.N).nR : Int) + gD a.st s.k) = (AB a.N).nR + gD a.st s.k := CF (by omega) (by omega)
  have e' : IntKind.i64.wrap (((AB a.N).nR : Int) + gD a.st s.k) = (AB a.N).nR + gD a.st s.k := e
  rw [ED hk] at q5
  simp only [DD, e] at q5
  simp only [e']
  have hb : ((AB a.N).nR + gD a.st s.k).toNat < s.all.length := by omega
  refine ⟨⟨by omega, hlt⟩, ⟨by omega, by omega⟩, hb, hb, ⟨s.all.modify ((AB a.N).nR + gD a.st s.k).toNat (λ w => { w with fr := wr ((AB a.N).out + 1) }), s.k + 1, wr (s.total + (gD s.all ((AB a.N).nR + gD a.st s.k).toNat).now)⟩, ⟨?_, (AN (by omega)).symm, ?_, ?_, λ i hi => ?_⟩, ⟨by show s.k + 1 <= _; omega, ?_, q5⟩, by show _ - (s.k + 1) < _; omega⟩
  ·simp
  ·simp
  ·simp
  ·simp only
   rw [BB hb]
   by_cases he : i = ((AB a.N).nR + gD a.st s.k).toNat
   ·simp [he]
   ·simp [he]
  ·simpa using q4
 ·have hk : s.k = a.st.length := by omega
  rw [hk, List.drop_eq_nil_of_le (Nat.le_refl _)] at q5
  have q5 : (s.all, s.total) = DD (AB a.N).out (AB a.N).nR a.st (AB a.N).all 0 := q5
  have hgd : Desk.mk (s.all ++ [(⟨(AB a.N).out, wr ((AB a.N).out + 1), ⟨-100000000, 100000000⟩, s.total⟩ : Way)]) (AB a.N).out (AB a.N).nR = CO (AB a.N) a.st := by
   unfold CO; rw [<- q5]
  have hgi : ∀ i, i < (AB a.N).all.length - 0 + 1 -> gD (s.all ++ [(⟨(AB a.N).out, wr ((AB a.N).out + 1), ⟨-100000000, 100000000⟩, s.total⟩ : Way)]) i = if i < (AB a.N).all.length then gD s.all i else ⟨(AB a.N).out, wr ((AB a.N).out + 1), ⟨-100000000, 100000000⟩, s.total⟩ := λ i hi => by
   rw [BO, q4]
   split
   ·rfl
   ·have : i = (AB a.N).all.length := by omega
    subst this; rw [Nat.sub_self]; rfl
  rw [Wh s.all _ q4]
  have hgi' := hgi
  simp only [hgd] at hgi' ⊢
  refine ⟨⟨⟨by omega, by omega, by omega, Nat.le_refl _⟩, by omega, by omega, by omega, by omega⟩, ⟨λ i hi => ?_, λ i hi => ?_, hgok, ⟨by omega, by omega⟩, h6⟩, ?_⟩
  ·rw [hgi i hi]
   by_cases h : i < (AB a.N).all.length
   ·simp [h]
   ·simp [h]
  ·rw [hgi i hi]
   by_cases h : i < (AB a.N).all.length
   ·simp [h]
   ·simp [h]
  ·exact ⟨rfl, rfl⟩
def d35 : List AVal -> Heap -> Option (NGr × List (Nat × Nat) × List Nat)
 | [.d x, .d (.list _ n g _)], _ => match MV x with
  | some N => some (⟨N, AD n λ i => FH (g i)⟩, [], [])
  | none => none
 | [.d x, .own id _ _ n], H => match MV x, H id with
  | some N, .live (.row _ _ g) => some (⟨N, AD n λ i => FH (g i)⟩, [], [id])
  | _, _ => none
 | _, _ => none
theorem ok35 : AI Try.prog 35 (C35.spec d35) := HQ C35 A35 [] [] Try.func35 (λ _ => by kernel_rfl) (λ _ => AA Jt (AA Hm (AA Sp (AA ok75 (AA Zu AF))))) (λ a h => p35 a h.1 h.2.1 h.2.2.1 h.2.2.2.1 h.2.2.2.2.1 h.2.2.2.2.2) (λ _ => IL rfl rfl) _
end Go.Bal
