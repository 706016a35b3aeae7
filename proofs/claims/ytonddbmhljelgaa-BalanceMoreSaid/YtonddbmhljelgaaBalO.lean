/- Package balance: Group. -/
import Derived.Test.YtonddbmhljelgaaBalN
set_option linter.unusedVariables false
set_option linter.unusedSimpArgs false
namespace Go.Bal
open Go Go.Sym Go.Proofs
structure NGr where
 N : NetL
 st : List Int
structure SL where
 last : Int
 k : Nat
 deriving Inhabited
structure GK where
 all : List Way
 k : Nat
 total : Int
 deriving Inhabited
def grpBad (n : Nat) : Int -> List Int -> Bool
 | _, [] => false
 | last, s :: l => !GD s (wr (last + 1)) (wr ((n : Int) - 1)) || grpBad n s l
def EL (out nR : Nat) : List Int -> List Way -> Int -> List Way × Int
 | [], all, t => (all, t)
 | s :: l, all, t => EL out nR l (all.modify (wr (nR + s)).toNat λ w => { w with fr := wr (out + 1) }) (wr (t + (gD all (wr (nR + s)).toNat).now))
def MC (d : Desk) (st : List Int) : Desk := ⟨(EL d.out d.nR st d.all 0).1 ++ [⟨d.out, wr (d.out + 1), ⟨-100000000, 100000000⟩, (EL d.out d.nR st d.all 0).2⟩], d.out, d.nR⟩
def Pi (a : NGr) : Span := (EI (MC (AA a.N) a.st) (AA a.N).all.length).getD default
def A35 (a : NGr) : Ann := { ann 129 [(44, Yx), (62, Us), (73, C73.spec XP), (75, C75.spec OP), (74, C74.spec dDI)] with mt := λ id => id == 27, loops := λ id => if id = 4 then some [{ α := SL, dflt := default, T := λ s => ⟨[(1, .d (CV a.st)), (2, .bptr 200 0), (4, .bptr 201 0), (6, .int 0), (7, .int s.last), (19, .d (CV a.st)), (20, .int a.st.length), (21, .int s.k)], [(200, MW a.N), (201, .live (.box [.int 0, .int 0]))]⟩, inv := λ s => s.k <= a.st.length /\ grpBad a.N.g.length s.last (a.st.drop s.k) = false, meas := λ s => a.st.length - s.k, first := [(200, 1000), (201, 1016)] }] else if id = 21 then some [{ α := GK, dflt := default, T := λ s => ⟨[(4, .bptr 201 0), (10, .bptr 301 0), (11, .int (wr ((AA a.N).out + 1))), (12, .int (AA a.N).all.length), (13, .int s.total), (74, .d (CV a.st)), (75, .int a.st.length), (76, .int s.k)], [(201, .live (.box [.int 0, .int 0])), (301, .live (TY (Desk.mk s.all (AA a.N).out (AA a.N).nR) 302)), (302, .live (UE (Desk.mk s.all (AA a.N).out (AA a.N).nR)))]⟩, inv := λ s => s.k <= a.st.length /\ s.all.length = (AA a.N).all.length /\ EL (AA a.N).out (AA a.N).nR (a.st.drop s.k) s.all s.total = EL (AA a.N).out (AA a.N).nR a.st (AA a.N).all 0, meas := λ s => a.st.length - s.k, first := [(301, 18016), (302, 18017)] }] else none }
def xs35 (a : NGr) : List AVal := [.d (EZ a.N), .d (CV a.st)]
def C35 : Ctr := { α := NGr, xs := xs35, L := λ _ => [], val := λ a => .tup [.d (JU (Pi a)), .int 0], keep := λ _ => [], pre := λ a => [AD a.N = 0, (AT a.N).isSome = true, ¬ 0 < CJ a.N, grpBad a.N.g.length (-1) a.st = false, 0 < a.st.length /\ a.st.length <= 1000000, (EI (MC (AA a.N) a.st) (AA a.N).all.length).isSome = true] }
def V35 (a : NGr) : Prop := BM Try.prog (A35 a) Try.f35 (AJ Try.f35) (C35.xs a) (AE (C35.L a)) (C35.val a) (C35.keep a) [] []
theorem vc35 (a : NGr) : (V35 a) = (((∀ (i : Nat), i < a.N.g.length -> True) /\ ∀ (i : Nat), i < a.N.r.length -> True) /\ (∃ (a_1 : SL), (a.st.length = a.st.length /\ (∀ (i : Nat), i < a.st.length -> gD a.st i = gD a.st i) /\
 (0 : Int) = EM (Net.mk a.N.g.length (λ (i : Nat) => gD a.N.g i) a.N.r.length λ (i : Nat) => gD a.N.r i) /\ a_1.last = (-1 : Int) /\ a.st.length = a.st.length /\ (∀ (i : Nat), i < a.st.length -> gD a.st i = gD a.st i)
 /\ (↑a.st.length : Int) = (↑a.st.length : Int) /\ (↑a_1.k : Int) = (0 : Int) /\ a.N.g.length = a.N.g.length /\ (∀ (i : Nat), i < a.N.g.length -> (gD a.N.g i).lo = (gD a.N.g i).lo /\ (gD a.N.g i).hi = (gD a.N.g i).hi) /\
 a.N.r.length = a.N.r.length /\ (∀ (i : Nat), i < a.N.r.length -> (gD a.N.r i).fr = (gD a.N.r i).fr /\ (gD a.N.r i).to = (gD a.N.r i).to /\ (gD a.N.r i).sp.lo = (gD a.N.r i).sp.lo /\ (gD a.N.r i).sp.hi = (gD a.N.r i).sp.hi) /\
 Int.ofNat (0 : Nat) = Int.ofNat (0 : Nat) /\ Int.ofNat (0 : Nat) = Int.ofNat (0 : Nat)) /\ a_1.k <= a.st.length /\ grpBad a.N.g.length a_1.last (List.drop a_1.k a.st) = false) /\ ∀ (a_1 : SL), a_1.k <= a.st.length /\ grpBad
 a.N.g.length a_1.last (List.drop a_1.k a.st) = false -> bif decide ((↑a_1.k : Int) < (↑a.st.length : Int)) then ((0 : Int) <= (↑a_1.k : Int) /\ (↑a_1.k : Int) < (↑a.st.length : Int)) /\ bif bif (0 : Int) == (0 : Int) then
 !GD (gD a.st a_1.k) (IntKind.i64.wrap (a_1.last + (1 : Int))) (IntKind.i64.wrap ((↑a.N.g.length : Int) - (1 : Int))) else false then ∃ (a_3 : SL), (a.st.length = a.st.length /\ (∀ (i : Nat), i < a.st.length -> gD a.st i =
 gD a.st i) /\ Int.ofNat (0 : Nat) = Int.ofNat (2 : Nat) /\ a_3.last = gD a.st a_1.k /\ a.st.length = a.st.length /\ (∀ (i : Nat), i < a.st.length -> gD a.st i = gD a.st i) /\ (↑a.st.length : Int) = (↑a.st.length : Int) /\
 (↑a_3.k : Int) = IntKind.i64.wrap ((↑a_1.k : Int) + (1 : Int)) /\ a.N.g.length = a.N.g.length /\ (∀ (i : Nat), i < a.N.g.length -> (gD a.N.g i).lo = (gD a.N.g i).lo /\ (gD a.N.g i).hi = (gD a.N.g i).hi) /\ a.N.r.length =
 a.N.r.length /\ (∀ (i : Nat), i < a.N.r.length -> (gD a.N.r i).fr = (gD a.N.r i).fr /\ (gD a.N.r i).to = (gD a.N.r i).to /\ (gD a.N.r i).sp.lo = (gD a.N.r i).sp.lo /\ (gD a.N.r i).sp.hi = (gD a.N.r i).sp.hi) /\ Int.ofNat (0 :
 Nat) = Int.ofNat (0 : Nat) /\ Int.ofNat (0 : Nat) = Int.ofNat (0 : Nat)) /\ (a_3.k <= a.st.length /\ grpBad a.N.g.length a_3.last (List.drop a_3.k a.st) = false) /\ a.st.length - a_3.k < a.st.length - a_1.k else ∃ (a_3 : SL),
 (a.st.length = a.st.length /\ (∀ (i : Nat), i < a.st.length -> gD a.st i = gD a.st i) /\ Int.ofNat (0 : Nat) = Int.ofNat (0 : Nat) /\ a_3.last = gD a.st a_1.k /\ a.st.length = a.st.length /\ (∀ (i : Nat), i < a.st.length -> gD
 a.st i = gD a.st i) /\ (↑a.st.length : Int) = (↑a.st.length : Int) /\ (↑a_3.k : Int) = IntKind.i64.wrap ((↑a_1.k : Int) + (1 : Int)) /\ a.N.g.length = a.N.g.length /\ (∀ (i : Nat), i < a.N.g.length -> (gD a.N.g i).lo = (gD
 a.N.g i).lo /\ (gD a.N.g i).hi = (gD a.N.g i).hi) /\ a.N.r.length = a.N.r.length /\ (∀ (i : Nat), i < a.N.r.length -> (gD a.N.r i).fr = (gD a.N.r i).fr /\ (gD a.N.r i).to = (gD a.N.r i).to /\ (gD a.N.r i).sp.lo = (gD a.N.r
 i).sp.lo /\ (gD a.N.r i).sp.hi = (gD a.N.r i).sp.hi) /\ Int.ofNat (0 : Nat) = Int.ofNat (0 : Nat) /\ Int.ofNat (0 : Nat) = Int.ofNat (0 : Nat)) /\ (a_3.k <= a.st.length /\ grpBad a.N.g.length a_3.last (List.drop a_3.k a.st) =
 false) /\ a.st.length - a_3.k < a.st.length - a_1.k else bif bif (0 : Int) == (0 : Int) then (↑a.st.length : Int) == (0 : Int) else false then (Pi a).lo = (0 : Int) /\ (Pi a).hi = (0 : Int) /\ Int.ofNat (0 : Nat) =
 Int.ofNat (2 : Nat) else ((AC a.N.g.length λ (i : Nat) => gD a.N.g i).length = a.N.g.length /\ (∀ (i : Nat), i < (AC a.N.g.length λ (i : Nat) => gD a.N.g i).length -> (gD (AC a.N.g.length λ (i : Nat) => gD a.N.g
 i) i).lo = (gD a.N.g i).lo /\ (gD (AC a.N.g.length λ (i : Nat) => gD a.N.g i) i).hi = (gD a.N.g i).hi) /\ (AC a.N.r.length λ (i : Nat) => gD a.N.r i).length = a.N.r.length /\ (∀ (i : Nat), i < (AC a.N.r.length λ (i
 : Nat) => gD a.N.r i).length -> (gD (AC a.N.r.length λ (i : Nat) => gD a.N.r i) i).fr = (gD a.N.r i).fr /\ (gD (AC a.N.r.length λ (i : Nat) => gD a.N.r i) i).to = (gD a.N.r i).to /\ (gD (AC a.N.r.length λ (i : Nat)
 => gD a.N.r i) i).sp.lo = (gD a.N.r i).sp.lo /\ (gD (AC a.N.r.length λ (i : Nat) => gD a.N.r i) i).sp.hi = (gD a.N.r i).sp.hi) /\ AD (NetL.mk (AC a.N.g.length λ (i : Nat) => gD a.N.g i) (AC a.N.r.length λ (i :
 Nat) => gD a.N.r i)) = (0 : Int) /\ (AT (NetL.mk (AC a.N.g.length λ (i : Nat) => gD a.N.g i) (AC a.N.r.length λ (i : Nat) => gD a.N.r i))).isSome = true /\ ((0 : Int) < CJ (NetL.mk (AC a.N.g.length λ (i :
 Nat) => gD a.N.g i) (AC a.N.r.length λ (i : Nat) => gD a.N.r i)) -> False)) /\ ((0 : Nat) = (0 : Nat) /\ (AC (AA (NetL.mk (AC a.N.g.length λ (i : Nat) => gD a.N.g i) (AC a.N.r.length λ (i : Nat) => gD a.N.r
 i))).all.length λ (i : Nat) => gD (AA (NetL.mk (AC a.N.g.length λ (i : Nat) => gD a.N.g i) (AC a.N.r.length λ (i : Nat) => gD a.N.r i))).all i).length = (AA (NetL.mk (AC a.N.g.length λ (i : Nat) => gD
 a.N.g i) (AC a.N.r.length λ (i : Nat) => gD a.N.r i))).all.length /\ (↑(AA (NetL.mk (AC a.N.g.length λ (i : Nat) => gD a.N.g i) (AC a.N.r.length λ (i : Nat) => gD a.N.r i))).out : Int) = (↑(AA (NetL.mk (AC
 a.N.g.length λ (i : Nat) => gD a.N.g i) (AC a.N.r.length λ (i : Nat) => gD a.N.r i))).out : Int) /\ (↑(AA (NetL.mk (AC a.N.g.length λ (i : Nat) => gD a.N.g i) (AC a.N.r.length λ (i : Nat) => gD a.N.r i))).nR
 : Int) = (↑(AA (NetL.mk (AC a.N.g.length λ (i : Nat) => gD a.N.g i) (AC a.N.r.length λ (i : Nat) => gD a.N.r i))).nR : Int) /\ (AC (AA (NetL.mk (AC a.N.g.length λ (i : Nat) => gD a.N.g i) (AC a.N.r.length
 λ (i : Nat) => gD a.N.r i))).all.length λ (i : Nat) => gD (AA (NetL.mk (AC a.N.g.length λ (i : Nat) => gD a.N.g i) (AC a.N.r.length λ (i : Nat) => gD a.N.r i))).all i).length = (AA (NetL.mk (AC
 a.N.g.length λ (i : Nat) => gD a.N.g i) (AC a.N.r.length λ (i : Nat) => gD a.N.r i))).all.length /\ (∀ (i : Nat), i < (AC (AA (NetL.mk (AC a.N.g.length λ (i : Nat) => gD a.N.g i) (AC a.N.r.length λ (i : Nat)
 => gD a.N.r i))).all.length λ (i : Nat) => gD (AA (NetL.mk (AC a.N.g.length λ (i : Nat) => gD a.N.g i) (AC a.N.r.length λ (i : Nat) => gD a.N.r i))).all i).length -> (gD (AC (AA (NetL.mk (AC a.N.g.length fun
 (i : Nat) => gD a.N.g i) (AC a.N.r.length λ (i : Nat) => gD a.N.r i))).all.length λ (i : Nat) => gD (AA (NetL.mk (AC a.N.g.length λ (i : Nat) => gD a.N.g i) (AC a.N.r.length λ (i : Nat) => gD a.N.r i))).all
 i) i).fr = (gD (AA (NetL.mk (AC a.N.g.length λ (i : Nat) => gD a.N.g i) (AC a.N.r.length λ (i : Nat) => gD a.N.r i))).all i).fr /\ (gD (AC (AA (NetL.mk (AC a.N.g.length λ (i : Nat) => gD a.N.g i) (AC
 a.N.r.length λ (i : Nat) => gD a.N.r i))).all.length λ (i : Nat) => gD (AA (NetL.mk (AC a.N.g.length λ (i : Nat) => gD a.N.g i) (AC a.N.r.length λ (i : Nat) => gD a.N.r i))).all i) i).to = (gD (AA (NetL.mk
 (AC a.N.g.length λ (i : Nat) => gD a.N.g i) (AC a.N.r.length λ (i : Nat) => gD a.N.r i))).all i).to /\ (gD (AC (AA (NetL.mk (AC a.N.g.length λ (i : Nat) => gD a.N.g i) (AC a.N.r.length λ (i : Nat) => gD
 a.N.r i))).all.length λ (i : Nat) => gD (AA (NetL.mk (AC a.N.g.length λ (i : Nat) => gD a.N.g i) (AC a.N.r.length λ (i : Nat) => gD a.N.r i))).all i) i).sp.lo = (gD (AA (NetL.mk (AC a.N.g.length λ (i :
 Nat) => gD a.N.g i) (AC a.N.r.length λ (i : Nat) => gD a.N.r i))).all i).sp.lo /\ (gD (AC (AA (NetL.mk (AC a.N.g.length λ (i : Nat) => gD a.N.g i) (AC a.N.r.length λ (i : Nat) => gD a.N.r i))).all.length fun
 (i : Nat) => gD (AA (NetL.mk (AC a.N.g.length λ (i : Nat) => gD a.N.g i) (AC a.N.r.length λ (i : Nat) => gD a.N.r i))).all i) i).sp.hi = (gD (AA (NetL.mk (AC a.N.g.length λ (i : Nat) => gD a.N.g i) (AC
 a.N.r.length λ (i : Nat) => gD a.N.r i))).all i).sp.hi /\ (gD (AC (AA (NetL.mk (AC a.N.g.length λ (i : Nat) => gD a.N.g i) (AC a.N.r.length λ (i : Nat) => gD a.N.r i))).all.length λ (i : Nat) => gD (AA
 (NetL.mk (AC a.N.g.length λ (i : Nat) => gD a.N.g i) (AC a.N.r.length λ (i : Nat) => gD a.N.r i))).all i) i).now = (gD (AA (NetL.mk (AC a.N.g.length λ (i : Nat) => gD a.N.g i) (AC a.N.r.length λ (i : Nat)
 => gD a.N.r i))).all i).now) /\ (0 : Nat) = (0 : Nat) /\ (AA (NetL.mk (AC a.N.g.length λ (i : Nat) => gD a.N.g i) (AC a.N.r.length λ (i : Nat) => gD a.N.r i))).all.length = (AC (AA (NetL.mk (AC a.N.g.length fun
 (i : Nat) => gD a.N.g i) (AC a.N.r.length λ (i : Nat) => gD a.N.r i))).all.length λ (i : Nat) => gD (AA (NetL.mk (AC a.N.g.length λ (i : Nat) => gD a.N.g i) (AC a.N.r.length λ (i : Nat) => gD a.N.r i))).all
 i).length /\ (↑(AA (NetL.mk (AC a.N.g.length λ (i : Nat) => gD a.N.g i) (AC a.N.r.length λ (i : Nat) => gD a.N.r i))).out : Int) = (↑(AA (NetL.mk (AC a.N.g.length λ (i : Nat) => gD a.N.g i) (AC a.N.r.length
 λ (i : Nat) => gD a.N.r i))).out : Int) /\ (↑(AA (NetL.mk (AC a.N.g.length λ (i : Nat) => gD a.N.g i) (AC a.N.r.length λ (i : Nat) => gD a.N.r i))).nR : Int) = (↑(AA (NetL.mk (AC a.N.g.length λ (i : Nat) =>
 gD a.N.g i) (AC a.N.r.length λ (i : Nat) => gD a.N.r i))).nR : Int) /\ (AA (NetL.mk (AC a.N.g.length λ (i : Nat) => gD a.N.g i) (AC a.N.r.length λ (i : Nat) => gD a.N.r i))).all.length = (AC (AA (NetL.mk
 (AC a.N.g.length λ (i : Nat) => gD a.N.g i) (AC a.N.r.length λ (i : Nat) => gD a.N.r i))).all.length λ (i : Nat) => gD (AA (NetL.mk (AC a.N.g.length λ (i : Nat) => gD a.N.g i) (AC a.N.r.length λ (i : Nat)
 => gD a.N.r i))).all i).length /\ (∀ (i : Nat), i < (AA (NetL.mk (AC a.N.g.length λ (i : Nat) => gD a.N.g i) (AC a.N.r.length λ (i : Nat) => gD a.N.r i))).all.length -> (gD (AA (NetL.mk (AC a.N.g.length λ (i :
 Nat) => gD a.N.g i) (AC a.N.r.length λ (i : Nat) => gD a.N.r i))).all i).fr = (gD (AC (AA (NetL.mk (AC a.N.g.length λ (i : Nat) => gD a.N.g i) (AC a.N.r.length λ (i : Nat) => gD a.N.r i))).all.length λ (i :
 Nat) => gD (AA (NetL.mk (AC a.N.g.length λ (i : Nat) => gD a.N.g i) (AC a.N.r.length λ (i : Nat) => gD a.N.r i))).all i) i).fr /\ (gD (AA (NetL.mk (AC a.N.g.length λ (i : Nat) => gD a.N.g i) (AC a.N.r.length
 λ (i : Nat) => gD a.N.r i))).all i).to = (gD (AC (AA (NetL.mk (AC a.N.g.length λ (i : Nat) => gD a.N.g i) (AC a.N.r.length λ (i : Nat) => gD a.N.r i))).all.length λ (i : Nat) => gD (AA (NetL.mk (AC
 a.N.g.length λ (i : Nat) => gD a.N.g i) (AC a.N.r.length λ (i : Nat) => gD a.N.r i))).all i) i).to /\ (gD (AA (NetL.mk (AC a.N.g.length λ (i : Nat) => gD a.N.g i) (AC a.N.r.length λ (i : Nat) => gD a.N.r
 i))).all i).sp.lo = (gD (AC (AA (NetL.mk (AC a.N.g.length λ (i : Nat) => gD a.N.g i) (AC a.N.r.length λ (i : Nat) => gD a.N.r i))).all.length λ (i : Nat) => gD (AA (NetL.mk (AC a.N.g.length λ (i : Nat) =>
 gD a.N.g i) (AC a.N.r.length λ (i : Nat) => gD a.N.r i))).all i) i).sp.lo /\ (gD (AA (NetL.mk (AC a.N.g.length λ (i : Nat) => gD a.N.g i) (AC a.N.r.length λ (i : Nat) => gD a.N.r i))).all i).sp.hi = (gD (AC
 (AA (NetL.mk (AC a.N.g.length λ (i : Nat) => gD a.N.g i) (AC a.N.r.length λ (i : Nat) => gD a.N.r i))).all.length λ (i : Nat) => gD (AA (NetL.mk (AC a.N.g.length λ (i : Nat) => gD a.N.g i) (AC
 a.N.r.length λ (i : Nat) => gD a.N.r i))).all i) i).sp.hi /\ (gD (AA (NetL.mk (AC a.N.g.length λ (i : Nat) => gD a.N.g i) (AC a.N.r.length λ (i : Nat) => gD a.N.r i))).all i).now = (gD (AC (AA (NetL.mk (AC
 a.N.g.length λ (i : Nat) => gD a.N.g i) (AC a.N.r.length λ (i : Nat) => gD a.N.r i))).all.length λ (i : Nat) => gD (AA (NetL.mk (AC a.N.g.length λ (i : Nat) => gD a.N.g i) (AC a.N.r.length λ (i : Nat) =>
 gD a.N.r i))).all i) i).now) /\ (0 : Nat) < (AC (AA (NetL.mk (AC a.N.g.length λ (i : Nat) => gD a.N.g i) (AC a.N.r.length λ (i : Nat) => gD a.N.r i))).all.length λ (i : Nat) => gD (AA (NetL.mk (AC
 a.N.g.length λ (i : Nat) => gD a.N.g i) (AC a.N.r.length λ (i : Nat) => gD a.N.r i))).all i).length /\ (AC (AA (NetL.mk (AC a.N.g.length λ (i : Nat) => gD a.N.g i) (AC a.N.r.length λ (i : Nat) => gD a.N.r
 i))).all.length λ (i : Nat) => gD (AA (NetL.mk (AC a.N.g.length λ (i : Nat) => gD a.N.g i) (AC a.N.r.length λ (i : Nat) => gD a.N.r i))).all i).length <= (1000 : Nat)) /\ (∃ (a_3 : GK), (wr ((↑(AA a.N).out :
 Int) + (1 : Int)) = IntKind.i64.wrap ((↑(AA (NetL.mk (AC a.N.g.length λ (i : Nat) => gD a.N.g i) (AC a.N.r.length λ (i : Nat) => gD a.N.r i))).out : Int) + (1 : Int)) /\ (↑(AA a.N).all.length : Int) = (↑(AC
 (AA (NetL.mk (AC a.N.g.length λ (i : Nat) => gD a.N.g i) (AC a.N.r.length λ (i : Nat) => gD a.N.r i))).all.length λ (i : Nat) => gD (AA (NetL.mk (AC a.N.g.length λ (i : Nat) => gD a.N.g i) (AC
 a.N.r.length λ (i : Nat) => gD a.N.r i))).all i).length : Int) /\ a_3.total = (0 : Int) /\ a.st.length = a.st.length /\ (∀ (i : Nat), i < a.st.length -> gD a.st i = gD a.st i) /\ (↑a.st.length : Int) = (↑a.st.length : Int)
 /\ (↑a_3.k : Int) = (0 : Int) /\ Int.ofNat (0 : Nat) = Int.ofNat (0 : Nat) /\ Int.ofNat (0 : Nat) = Int.ofNat (0 : Nat) /\ (0 : Nat) = (0 : Nat) /\ a_3.all.length = (AC (AA (NetL.mk (AC a.N.g.length λ (i : Nat) => gD
 a.N.g i) (AC a.N.r.length λ (i : Nat) => gD a.N.r i))).all.length λ (i : Nat) => gD (AA (NetL.mk (AC a.N.g.length λ (i : Nat) => gD a.N.g i) (AC a.N.r.length λ (i : Nat) => gD a.N.r i))).all i).length /\
 (↑(AA a.N).out : Int) = (↑(AA (NetL.mk (AC a.N.g.length λ (i : Nat) => gD a.N.g i) (AC a.N.r.length λ (i : Nat) => gD a.N.r i))).out : Int) /\ (↑(AA a.N).nR : Int) = (↑(AA (NetL.mk (AC a.N.g.length λ (i :
 Nat) => gD a.N.g i) (AC a.N.r.length λ (i : Nat) => gD a.N.r i))).nR : Int) /\ a_3.all.length = (AC (AA (NetL.mk (AC a.N.g.length λ (i : Nat) => gD a.N.g i) (AC a.N.r.length λ (i : Nat) => gD a.N.r
 i))).all.length λ (i : Nat) => gD (AA (NetL.mk (AC a.N.g.length λ (i : Nat) => gD a.N.g i) (AC a.N.r.length λ (i : Nat) => gD a.N.r i))).all i).length /\ ∀ (i : Nat), i < a_3.all.length -> (gD a_3.all i).fr = (gD
 (AC (AA (NetL.mk (AC a.N.g.length λ (i : Nat) => gD a.N.g i) (AC a.N.r.length λ (i : Nat) => gD a.N.r i))).all.length λ (i : Nat) => gD (AA (NetL.mk (AC a.N.g.length λ (i : Nat) => gD a.N.g i) (AC
 a.N.r.length λ (i : Nat) => gD a.N.r i))).all i) i).fr /\ (gD a_3.all i).to = (gD (AC (AA (NetL.mk (AC a.N.g.length λ (i : Nat) => gD a.N.g i) (AC a.N.r.length λ (i : Nat) => gD a.N.r i))).all.length λ (i :
 Nat) => gD (AA (NetL.mk (AC a.N.g.length λ (i : Nat) => gD a.N.g i) (AC a.N.r.length λ (i : Nat) => gD a.N.r i))).all i) i).to /\ (gD a_3.all i).sp.lo = (gD (AC (AA (NetL.mk (AC a.N.g.length λ (i : Nat) =>
 gD a.N.g i) (AC a.N.r.length λ (i : Nat) => gD a.N.r i))).all.length λ (i : Nat) => gD (AA (NetL.mk (AC a.N.g.length λ (i : Nat) => gD a.N.g i) (AC a.N.r.length λ (i : Nat) => gD a.N.r i))).all i) i).sp.lo /\
 (gD a_3.all i).sp.hi = (gD (AC (AA (NetL.mk (AC a.N.g.length λ (i : Nat) => gD a.N.g i) (AC a.N.r.length λ (i : Nat) => gD a.N.r i))).all.length λ (i : Nat) => gD (AA (NetL.mk (AC a.N.g.length λ (i : Nat)
 => gD a.N.g i) (AC a.N.r.length λ (i : Nat) => gD a.N.r i))).all i) i).sp.hi /\ (gD a_3.all i).now = (gD (AC (AA (NetL.mk (AC a.N.g.length λ (i : Nat) => gD a.N.g i) (AC a.N.r.length λ (i : Nat) => gD a.N.r
 i))).all.length λ (i : Nat) => gD (AA (NetL.mk (AC a.N.g.length λ (i : Nat) => gD a.N.g i) (AC a.N.r.length λ (i : Nat) => gD a.N.r i))).all i) i).now) /\ a_3.k <= a.st.length /\ a_3.all.length = (AA
 a.N).all.length /\ EL (AA a.N).out (AA a.N).nR (List.drop a_3.k a.st) a_3.all a_3.total = EL (AA a.N).out (AA a.N).nR a.st (AA a.N).all (0 : Int)) /\ ∀ (a_3 : GK), a_3.k <= a.st.length /\ a_3.all.length =
 (AA a.N).all.length /\ EL (AA a.N).out (AA a.N).nR (List.drop a_3.k a.st) a_3.all a_3.total = EL (AA a.N).out (AA a.N).nR a.st (AA a.N).all (0 : Int) -> bif decide ((↑a_3.k : Int) < (↑a.st.length :
 Int)) then ((0 : Int) <= (↑a_3.k : Int) /\ (↑a_3.k : Int) < (↑a.st.length : Int)) /\ ((0 : Int) <= IntKind.i64.wrap ((↑(AA a.N).nR : Int) + gD a.st a_3.k) /\ IntKind.i64.wrap ((↑(AA a.N).nR : Int) + gD a.st a_3.k) <
 (↑a_3.all.length : Int)) /\ ((0 : Nat) + (IntKind.i64.wrap ((↑(AA a.N).nR : Int) + gD a.st a_3.k)).toNat).succ.le a_3.all.length /\ ((0 : Nat) + (IntKind.i64.wrap ((↑(AA a.N).nR : Int) + gD a.st a_3.k)).toNat).succ.le
 a_3.all.length /\ ∃ (a_5 : GK), (wr ((↑(AA a.N).out : Int) + (1 : Int)) = wr ((↑(AA a.N).out : Int) + (1 : Int)) /\ (↑(AA a.N).all.length : Int) = (↑(AA a.N).all.length : Int) /\ a_5.total = IntKind.i64.wrap
 (a_3.total + bif decide ((0 : Nat) + (IntKind.i64.wrap ((↑(AA a.N).nR : Int) + gD a.st a_3.k)).toNat = (0 : Nat) + (IntKind.i64.wrap ((↑(AA a.N).nR : Int) + gD a.st a_3.k)).toNat) then (gD a_3.all ((0 : Nat) +
 (IntKind.i64.wrap ((↑(AA a.N).nR : Int) + gD a.st a_3.k)).toNat)).now else (gD a_3.all ((0 : Nat) + (IntKind.i64.wrap ((↑(AA a.N).nR : Int) + gD a.st a_3.k)).toNat)).now) /\ a.st.length = a.st.length /\ (∀ (i : Nat), i
 < a.st.length -> gD a.st i = gD a.st i) /\ (↑a.st.length : Int) = (↑a.st.length : Int) /\ (↑a_5.k : Int) = IntKind.i64.wrap ((↑a_3.k : Int) + (1 : Int)) /\ Int.ofNat (0 : Nat) = Int.ofNat (0 : Nat) /\ Int.ofNat (0 : Nat) =
 Int.ofNat (0 : Nat) /\ (0 : Nat) = (0 : Nat) /\ a_5.all.length = a_3.all.length /\ (↑(AA a.N).out : Int) = (↑(AA a.N).out : Int) /\ (↑(AA a.N).nR : Int) = (↑(AA a.N).nR : Int) /\ a_5.all.length = a_3.all.length /\ ∀ (i
 : Nat), i < a_5.all.length -> ((gD a_5.all i).fr = bif decide (i = (0 : Nat) + (IntKind.i64.wrap ((↑(AA a.N).nR : Int) + gD a.st a_3.k)).toNat) then wr ((↑(AA a.N).out : Int) + (1 : Int)) else (gD a_3.all i).fr) /\
 ((gD a_5.all i).to = bif decide (i = (0 : Nat) + (IntKind.i64.wrap ((↑(AA a.N).nR : Int) + gD a.st a_3.k)).toNat) then (gD a_3.all ((0 : Nat) + (IntKind.i64.wrap ((↑(AA a.N).nR : Int) + gD a.st a_3.k)).toNat)).to
 else (gD a_3.all i).to) /\ ((gD a_5.all i).sp.lo = bif decide (i = (0 : Nat) + (IntKind.i64.wrap ((↑(AA a.N).nR : Int) + gD a.st a_3.k)).toNat) then (gD a_3.all ((0 : Nat) + (IntKind.i64.wrap ((↑(AA a.N).nR : Int) +
 gD a.st a_3.k)).toNat)).sp.lo else (gD a_3.all i).sp.lo) /\ ((gD a_5.all i).sp.hi = bif decide (i = (0 : Nat) + (IntKind.i64.wrap ((↑(AA a.N).nR : Int) + gD a.st a_3.k)).toNat) then (gD a_3.all ((0 : Nat) +
 (IntKind.i64.wrap ((↑(AA a.N).nR : Int) + gD a.st a_3.k)).toNat)).sp.hi else (gD a_3.all i).sp.hi) /\ (gD a_5.all i).now = bif decide (i = (0 : Nat) + (IntKind.i64.wrap ((↑(AA a.N).nR : Int) + gD a.st a_3.k)).toNat)
 then (gD a_3.all ((0 : Nat) + (IntKind.i64.wrap ((↑(AA a.N).nR : Int) + gD a.st a_3.k)).toNat)).now else (gD a_3.all i).now) /\ (a_5.k <= a.st.length /\ a_5.all.length = (AA a.N).all.length /\ EL (AA a.N).out (AA
 a.N).nR (List.drop a_5.k a.st) a_5.all a_5.total = EL (AA a.N).out (AA a.N).nR a.st (AA a.N).all (0 : Int)) /\ a.st.length - a_5.k < a.st.length - a_3.k else (((0 : Int) <= (0 : Int) /\ (0 : Int) <= (↑(AA
 a.N).all.length : Int) /\ (↑(AA a.N).all.length : Int) = (↑(AA a.N).all.length : Int) /\ (↑(AA a.N).all.length : Int) <= (↑a_3.all.length : Int) /\ a_3.all.length <= a_3.all.length) /\ (True /\ ((0 : Nat) < (AA
 a.N).all.length - (0 : Nat) -> (5 : Nat) = (5 : Nat))) /\ ((1 : Nat) <= (1 : Nat) /\ ((0 : Nat) < (1 : Nat) -> (5 : Nat) = (5 : Nat))) /\ (true = true -> (0 : Nat) < (1 : Nat)) /\ (AA a.N).all.length - (0 : Nat) + (1 : Nat) <=
 (9223372036854775807 : Nat) /\ ((AA a.N).all.length - (0 : Nat) + (1 : Nat)) * (40 : Nat) <= (140737488355328 : Nat)) /\ ((↑(AA a.N).all.length : Int) = (↑(AA a.N).all.length : Int) /\ (0 : Nat) = (0 : Nat) /\ (AC
 ((AA a.N).all.length - Int.toNat (0 : Int) + (1 : Nat)) λ (i : Nat) => IF (HB ((AA a.N).all.length - Int.toNat (0 : Int)) (λ (i : Nat) => IX (gD a_3.all (Int.toNat (0 : Int) + i))) (λ (i : Nat) => EG
 [Sym.elemOf [DVal.v (Value.int IntKind.i64 (↑(AA a.N).out : Int)), DVal.v (Value.int IntKind.i64 (wr ((↑(AA a.N).out : Int) + (1 : Int)))), HU (Value.int IntKind.i64 (-100000000 : Int)), HU (Value.int IntKind.i64
 (100000000 : Int)), DVal.v (Value.int IntKind.i64 a_3.total)]] ((0 : Nat) + i)) i)).length = (AA a.N).all.length - Int.toNat (0 : Int) + (1 : Nat) /\ (↑(AA a.N).out : Int) = (↑(AA a.N).out : Int) /\ (↑(AA a.N).nR :
 Int) = (↑(AA a.N).nR : Int) /\ (AC ((AA a.N).all.length - Int.toNat (0 : Int) + (1 : Nat)) λ (i : Nat) => IF (HB ((AA a.N).all.length - Int.toNat (0 : Int)) (λ (i : Nat) => IX (gD a_3.all (Int.toNat (0 :
 Int) + i))) (λ (i : Nat) => EG [Sym.elemOf [DVal.v (Value.int IntKind.i64 (↑(AA a.N).out : Int)), DVal.v (Value.int IntKind.i64 (wr ((↑(AA a.N).out : Int) + (1 : Int)))), HU (Value.int IntKind.i64 (-100000000 :
 Int)), HU (Value.int IntKind.i64 (100000000 : Int)), DVal.v (Value.int IntKind.i64 a_3.total)]] ((0 : Nat) + i)) i)).length = (AA a.N).all.length - Int.toNat (0 : Int) + (1 : Nat) /\ (∀ (i : Nat), i < (AC ((AA
 a.N).all.length - (0 : Nat) + (1 : Nat)) λ (i : Nat) => IF (HB ((AA a.N).all.length - (0 : Nat)) (λ (i : Nat) => IX (gD a_3.all ((0 : Nat) + i))) (λ (i : Nat) => EG [Sym.elemOf [DVal.v (Value.int
 IntKind.i64 (↑(AA a.N).out : Int)), DVal.v (Value.int IntKind.i64 (wr ((↑(AA a.N).out : Int) + (1 : Int)))), HU (Value.int IntKind.i64 (-100000000 : Int)), HU (Value.int IntKind.i64 (100000000 : Int)), DVal.v
 (Value.int IntKind.i64 a_3.total)]] ((0 : Nat) + i)) i)).length -> ((gD (AC ((AA a.N).all.length - Int.toNat (0 : Int) + (1 : Nat)) λ (i : Nat) => IF (HB ((AA a.N).all.length - Int.toNat (0 : Int)) (λ (i :
 Nat) => IX (gD a_3.all (Int.toNat (0 : Int) + i))) (λ (i : Nat) => EG [Sym.elemOf [DVal.v (Value.int IntKind.i64 (↑(AA a.N).out : Int)), DVal.v (Value.int IntKind.i64 (wr ((↑(AA a.N).out : Int) + (1 : Int)))),
 HU (Value.int IntKind.i64 (-100000000 : Int)), HU (Value.int IntKind.i64 (100000000 : Int)), DVal.v (Value.int IntKind.i64 a_3.total)]] ((0 : Nat) + i)) i)) i).fr = bif decide (i < (AA a.N).all.length - Int.toNat (0
 : Int)) then (gD a_3.all (Int.toNat (0 : Int) + i)).fr else (↑(AA a.N).out : Int)) /\ ((gD (AC ((AA a.N).all.length - Int.toNat (0 : Int) + (1 : Nat)) λ (i : Nat) => IF (HB ((AA a.N).all.length - Int.toNat (0
 : Int)) (λ (i : Nat) => IX (gD a_3.all (Int.toNat (0 : Int) + i))) (λ (i : Nat) => EG [Sym.elemOf [DVal.v (Value.int IntKind.i64 (↑(AA a.N).out : Int)), DVal.v (Value.int IntKind.i64 (wr ((↑(AA a.N).out :
 Int) + (1 : Int)))), HU (Value.int IntKind.i64 (-100000000 : Int)), HU (Value.int IntKind.i64 (100000000 : Int)), DVal.v (Value.int IntKind.i64 a_3.total)]] ((0 : Nat) + i)) i)) i).to = bif decide (i < (AA
 a.N).all.length - Int.toNat (0 : Int)) then (gD a_3.all (Int.toNat (0 : Int) + i)).to else wr ((↑(AA a.N).out : Int) + (1 : Int))) /\ ((gD (AC ((AA a.N).all.length - Int.toNat (0 : Int) + (1 : Nat)) λ (i : Nat) =>
 IF (HB ((AA a.N).all.length - Int.toNat (0 : Int)) (λ (i : Nat) => IX (gD a_3.all (Int.toNat (0 : Int) + i))) (λ (i : Nat) => EG [Sym.elemOf [DVal.v (Value.int IntKind.i64 (↑(AA a.N).out : Int)), DVal.v
 (Value.int IntKind.i64 (wr ((↑(AA a.N).out : Int) + (1 : Int)))), HU (Value.int IntKind.i64 (-100000000 : Int)), HU (Value.int IntKind.i64 (100000000 : Int)), DVal.v (Value.int IntKind.i64 a_3.total)]] ((0 : Nat) +
 i)) i)) i).sp.lo = bif decide (i < (AA a.N).all.length - Int.toNat (0 : Int)) then (gD a_3.all (Int.toNat (0 : Int) + i)).sp.lo else (-100000000 : Int)) /\ ((gD (AC ((AA a.N).all.length - Int.toNat (0 : Int) + (1 :
 Nat)) λ (i : Nat) => IF (HB ((AA a.N).all.length - Int.toNat (0 : Int)) (λ (i : Nat) => IX (gD a_3.all (Int.toNat (0 : Int) + i))) (λ (i : Nat) => EG [Sym.elemOf [DVal.v (Value.int IntKind.i64 (↑(AA
 a.N).out : Int)), DVal.v (Value.int IntKind.i64 (wr ((↑(AA a.N).out : Int) + (1 : Int)))), HU (Value.int IntKind.i64 (-100000000 : Int)), HU (Value.int IntKind.i64 (100000000 : Int)), DVal.v (Value.int IntKind.i64
 a_3.total)]] ((0 : Nat) + i)) i)) i).sp.hi = bif decide (i < (AA a.N).all.length - Int.toNat (0 : Int)) then (gD a_3.all (Int.toNat (0 : Int) + i)).sp.hi else (100000000 : Int)) /\ (gD (AC ((AA a.N).all.length -
 Int.toNat (0 : Int) + (1 : Nat)) λ (i : Nat) => IF (HB ((AA a.N).all.length - Int.toNat (0 : Int)) (λ (i : Nat) => IX (gD a_3.all (Int.toNat (0 : Int) + i))) (λ (i : Nat) => EG [Sym.elemOf [DVal.v
 (Value.int IntKind.i64 (↑(AA a.N).out : Int)), DVal.v (Value.int IntKind.i64 (wr ((↑(AA a.N).out : Int) + (1 : Int)))), HU (Value.int IntKind.i64 (-100000000 : Int)), HU (Value.int IntKind.i64 (100000000 : Int)),
 DVal.v (Value.int IntKind.i64 a_3.total)]] ((0 : Nat) + i)) i)) i).now = bif decide (i < (AA a.N).all.length - Int.toNat (0 : Int)) then (gD a_3.all (Int.toNat (0 : Int) + i)).now else a_3.total) /\ (0 : Nat) = (0 :
 Nat) /\ (AA a.N).all.length - Int.toNat (0 : Int) + (1 : Nat) = (AC ((AA a.N).all.length - Int.toNat (0 : Int) + (1 : Nat)) λ (i : Nat) => IF (HB ((AA a.N).all.length - Int.toNat (0 : Int)) (λ (i : Nat) =>
 IX (gD a_3.all (Int.toNat (0 : Int) + i))) (λ (i : Nat) => EG [Sym.elemOf [DVal.v (Value.int IntKind.i64 (↑(AA a.N).out : Int)), DVal.v (Value.int IntKind.i64 (wr ((↑(AA a.N).out : Int) + (1 : Int)))), HU
 (Value.int IntKind.i64 (-100000000 : Int)), HU (Value.int IntKind.i64 (100000000 : Int)), DVal.v (Value.int IntKind.i64 a_3.total)]] ((0 : Nat) + i)) i)).length /\ (↑(AA a.N).out : Int) = (↑(AA a.N).out : Int) /\
 (↑(AA a.N).nR : Int) = (↑(AA a.N).nR : Int) /\ (AA a.N).all.length - Int.toNat (0 : Int) + (1 : Nat) = (AC ((AA a.N).all.length - Int.toNat (0 : Int) + (1 : Nat)) λ (i : Nat) => IF (HB ((AA
 a.N).all.length - Int.toNat (0 : Int)) (λ (i : Nat) => IX (gD a_3.all (Int.toNat (0 : Int) + i))) (λ (i : Nat) => EG [Sym.elemOf [DVal.v (Value.int IntKind.i64 (↑(AA a.N).out : Int)), DVal.v (Value.int
 IntKind.i64 (wr ((↑(AA a.N).out : Int) + (1 : Int)))), HU (Value.int IntKind.i64 (-100000000 : Int)), HU (Value.int IntKind.i64 (100000000 : Int)), DVal.v (Value.int IntKind.i64 a_3.total)]] ((0 : Nat) + i))
 i)).length /\ (∀ (i : Nat), i < (AA a.N).all.length - (0 : Nat) + (1 : Nat) -> (bif decide (i < (AA a.N).all.length - Int.toNat (0 : Int)) then (gD a_3.all (Int.toNat (0 : Int) + i)).fr else (↑(AA a.N).out : Int)) =
 (gD (AC ((AA a.N).all.length - Int.toNat (0 : Int) + (1 : Nat)) λ (i : Nat) => IF (HB ((AA a.N).all.length - Int.toNat (0 : Int)) (λ (i : Nat) => IX (gD a_3.all (Int.toNat (0 : Int) + i))) (λ (i : Nat)
 => EG [Sym.elemOf [DVal.v (Value.int IntKind.i64 (↑(AA a.N).out : Int)), DVal.v (Value.int IntKind.i64 (wr ((↑(AA a.N).out : Int) + (1 : Int)))), HU (Value.int IntKind.i64 (-100000000 : Int)), HU (Value.int
 IntKind.i64 (100000000 : Int)), DVal.v (Value.int IntKind.i64 a_3.total)]] ((0 : Nat) + i)) i)) i).fr /\ (bif decide (i < (AA a.N).all.length - Int.toNat (0 : Int)) then (gD a_3.all (Int.toNat (0 : Int) + i)).to else wr
 ((↑(AA a.N).out : Int) + (1 : Int))) = (gD (AC ((AA a.N).all.length - Int.toNat (0 : Int) + (1 : Nat)) λ (i : Nat) => IF (HB ((AA a.N).all.length - Int.toNat (0 : Int)) (λ (i : Nat) => IX (gD a_3.all
 (Int.toNat (0 : Int) + i))) (λ (i : Nat) => EG [Sym.elemOf [DVal.v (Value.int IntKind.i64 (↑(AA a.N).out : Int)), DVal.v (Value.int IntKind.i64 (wr ((↑(AA a.N).out : Int) + (1 : Int)))), HU (Value.int
 IntKind.i64 (-100000000 : Int)), HU (Value.int IntKind.i64 (100000000 : Int)), DVal.v (Value.int IntKind.i64 a_3.total)]] ((0 : Nat) + i)) i)) i).to /\ (bif decide (i < (AA a.N).all.length - Int.toNat (0 : Int)) then
 (gD a_3.all (Int.toNat (0 : Int) + i)).sp.lo else (-100000000 : Int)) = (gD (AC ((AA a.N).all.length - Int.toNat (0 : Int) + (1 : Nat)) λ (i : Nat) => IF (HB ((AA a.N).all.length - Int.toNat (0 : Int)) (λ (i
 : Nat) => IX (gD a_3.all (Int.toNat (0 : Int) + i))) (λ (i : Nat) => EG [Sym.elemOf [DVal.v (Value.int IntKind.i64 (↑(AA a.N).out : Int)), DVal.v (Value.int IntKind.i64 (wr ((↑(AA a.N).out : Int) + (1 :
 Int)))), HU (Value.int IntKind.i64 (-100000000 : Int)), HU (Value.int IntKind.i64 (100000000 : Int)), DVal.v (Value.int IntKind.i64 a_3.total)]] ((0 : Nat) + i)) i)) i).sp.lo /\ (bif decide (i < (AA a.N).all.length -
 Int.toNat (0 : Int)) then (gD a_3.all (Int.toNat (0 : Int) + i)).sp.hi else (100000000 : Int)) = (gD (AC ((AA a.N).all.length - Int.toNat (0 : Int) + (1 : Nat)) λ (i : Nat) => IF (HB ((AA a.N).all.length -
 Int.toNat (0 : Int)) (λ (i : Nat) => IX (gD a_3.all (Int.toNat (0 : Int) + i))) (λ (i : Nat) => EG [Sym.elemOf [DVal.v (Value.int IntKind.i64 (↑(AA a.N).out : Int)), DVal.v (Value.int IntKind.i64 (wr ((↑(AA
 a.N).out : Int) + (1 : Int)))), HU (Value.int IntKind.i64 (-100000000 : Int)), HU (Value.int IntKind.i64 (100000000 : Int)), DVal.v (Value.int IntKind.i64 a_3.total)]] ((0 : Nat) + i)) i)) i).sp.hi /\ (bif decide (i <
 (AA a.N).all.length - Int.toNat (0 : Int)) then (gD a_3.all (Int.toNat (0 : Int) + i)).now else a_3.total) = (gD (AC ((AA a.N).all.length - Int.toNat (0 : Int) + (1 : Nat)) λ (i : Nat) => IF (HB ((AA
 a.N).all.length - Int.toNat (0 : Int)) (λ (i : Nat) => IX (gD a_3.all (Int.toNat (0 : Int) + i))) (λ (i : Nat) => EG [Sym.elemOf [DVal.v (Value.int IntKind.i64 (↑(AA a.N).out : Int)), DVal.v (Value.int
 IntKind.i64 (wr ((↑(AA a.N).out : Int) + (1 : Int)))), HU (Value.int IntKind.i64 (-100000000 : Int)), HU (Value.int IntKind.i64 (100000000 : Int)), DVal.v (Value.int IntKind.i64 a_3.total)]] ((0 : Nat) + i)) i))
 i).now) /\ (Desk.mk (AC ((AA a.N).all.length - Int.toNat (0 : Int) + (1 : Nat)) λ (i : Nat) => IF (HB ((AA a.N).all.length - Int.toNat (0 : Int)) (λ (i : Nat) => IX (gD a_3.all (Int.toNat (0 : Int) + i)))
 (λ (i : Nat) => EG [Sym.elemOf [DVal.v (Value.int IntKind.i64 (↑(AA a.N).out : Int)), DVal.v (Value.int IntKind.i64 (wr ((↑(AA a.N).out : Int) + (1 : Int)))), HU (Value.int IntKind.i64 (-100000000 : Int)), HU
 (Value.int IntKind.i64 (100000000 : Int)), DVal.v (Value.int IntKind.i64 a_3.total)]] ((0 : Nat) + i)) i)) (AA a.N).out (AA a.N).nR).ok /\ ((0 : Int) <= (↑(AA a.N).all.length : Int) /\ (↑(AA a.N).all.length : Int) <
 (↑(AC ((AA a.N).all.length - (0 : Nat) + (1 : Nat)) λ (i : Nat) => IF (HB ((AA a.N).all.length - (0 : Nat)) (λ (i : Nat) => IX (gD a_3.all ((0 : Nat) + i))) (λ (i : Nat) => EG [Sym.elemOf [DVal.v
 (Value.int IntKind.i64 (↑(AA a.N).out : Int)), DVal.v (Value.int IntKind.i64 (wr ((↑(AA a.N).out : Int) + (1 : Int)))), HU (Value.int IntKind.i64 (-100000000 : Int)), HU (Value.int IntKind.i64 (100000000 : Int)),
 DVal.v (Value.int IntKind.i64 a_3.total)]] ((0 : Nat) + i)) i)).length : Int)) /\ (EI (Desk.mk (AC ((AA a.N).all.length - Int.toNat (0 : Int) + (1 : Nat)) λ (i : Nat) => IF (HB ((AA a.N).all.length -
 Int.toNat (0 : Int)) (λ (i : Nat) => IX (gD a_3.all (Int.toNat (0 : Int) + i))) (λ (i : Nat) => EG [Sym.elemOf [DVal.v (Value.int IntKind.i64 (↑(AA a.N).out : Int)), DVal.v (Value.int IntKind.i64 (wr ((↑(AA
 a.N).out : Int) + (1 : Int)))), HU (Value.int IntKind.i64 (-100000000 : Int)), HU (Value.int IntKind.i64 (100000000 : Int)), DVal.v (Value.int IntKind.i64 a_3.total)]] ((0 : Nat) + i)) i)) (AA a.N).out (AA a.N).nR)
 (↑(AA a.N).all.length : Int)).isSome = true) /\ (Pi a).lo = ((EI (Desk.mk (AC ((AA a.N).all.length - Int.toNat (0 : Int) + (1 : Nat)) λ (i : Nat) => IF (HB ((AA a.N).all.length - Int.toNat (0 : Int))
 (λ (i : Nat) => IX (gD a_3.all (Int.toNat (0 : Int) + i))) (λ (i : Nat) => EG [Sym.elemOf [DVal.v (Value.int IntKind.i64 (↑(AA a.N).out : Int)), DVal.v (Value.int IntKind.i64 (wr ((↑(AA a.N).out : Int) + (1
 : Int)))), HU (Value.int IntKind.i64 (-100000000 : Int)), HU (Value.int IntKind.i64 (100000000 : Int)), DVal.v (Value.int IntKind.i64 a_3.total)]] ((0 : Nat) + i)) i)) (AA a.N).out (AA a.N).nR) (↑(AA
 a.N).all.length : Int)).getD default).lo /\ (Pi a).hi = ((EI (Desk.mk (AC ((AA a.N).all.length - Int.toNat (0 : Int) + (1 : Nat)) λ (i : Nat) => IF (HB ((AA a.N).all.length - Int.toNat (0 : Int)) (λ (i :
 Nat) => IX (gD a_3.all (Int.toNat (0 : Int) + i))) (λ (i : Nat) => EG [Sym.elemOf [DVal.v (Value.int IntKind.i64 (↑(AA a.N).out : Int)), DVal.v (Value.int IntKind.i64 (wr ((↑(AA a.N).out : Int) + (1 : Int)))),
 HU (Value.int IntKind.i64 (-100000000 : Int)), HU (Value.int IntKind.i64 (100000000 : Int)), DVal.v (Value.int IntKind.i64 a_3.total)]] ((0 : Nat) + i)) i)) (AA a.N).out (AA a.N).nR) (↑(AA a.N).all.length :
 Int)).getD default).hi /\ Int.ofNat (0 : Nat) = Int.ofNat (0 : Nat)) := by kernel_rfl
theorem Oc (all : List Way) (n : Nat) (hn : all.length = n) (o g lo hi t : Int) : AC (n - Int.toNat 0 + 1) (λ i => IF (HB (n - Int.toNat 0) (λ i => IX (gD all (Int.toNat 0 + i))) (λ i => EG [Sym.elemOf [DVal.v (Value.int IntKind.i64 o), DVal.v (Value.int IntKind.i64 g), HU (Value.int IntKind.i64 lo), HU (Value.int IntKind.i64 hi), DVal.v (Value.int IntKind.i64 t)]] i) i)) = all ++ [(⟨o, g, ⟨lo, hi⟩, t⟩ : Way)] := by
 subst hn
 apply OD
 ·simp
 ·intro i hi
  simp only [rng_length] at hi
  rw [Ky _ _ _ hi, CA]
  simp only [HB, FB, Int.toNat_zero, Nat.zero_add, Nat.sub_zero]
  by_cases h : i < all.length
  ·rw [if_pos h]; simp [h]
  ·have : i = all.length := by simp at hi; omega
   subst this
   rw [if_neg h]; simp only [h, decide_false, cond_false, Nat.sub_self]; rfl
theorem SO (out nR : Nat) : ∀ (l : List Int) (all : List Way) (t : Int), (EL out nR l all t).1.length = all.length
 | [], _, _ => rfl
 | s :: l, all, t => by simp only [EL]; rw [SO]; simp
theorem WX (out nR : Nat) (ho : out <= 8) : ∀ (l : List Int) (all : List Way) (t : Int), (∀ i, i < all.length -> (0 <= (gD all i).fr /\ (gD all i).fr < out + 2) /\ 0 <= (gD all i).to /\ (gD all i).to < out + 2) ->
  ∀ i, i < all.length -> (0 <= (gD (EL out nR l all t).1 i).fr /\ (gD (EL out nR l all t).1 i).fr < out + 2) /\ 0 <= (gD (EL out nR l all t).1 i).to /\ (gD (EL out nR l all t).1 i).to < out + 2
 | [], _, _, h, i, hi => h i hi
 | s :: l, all, t, h, i, hi => by
  simp only [EL]
  refine WX out nR ho l _ _ (λ j hj => ?_) i (by simpa using hi)
  have hj : j < all.length := by simpa using hj
  by_cases hb : (wr (nR + s)).toNat < all.length
  ·rw [BR hb]
   split
   ·have e : wr ((out : Int) + 1) = out + 1 := DR (by omega) (by omega)
    obtain ⟨_, h2⟩ := h _ hb
    exact ⟨⟨by show 0 <= wr _; rw [e]; omega, by show wr _ < _; rw [e]; omega⟩, h2⟩
   ·exact h j hj
  ·have : all.modify (wr (nR + s)).toNat (λ w => { w with fr := wr (out + 1) }) = all := by
    apply List.ext_getElem?; intro q; rw [List.getElem?_modify]
    by_cases hq : (wr (nR + s)).toNat = q
    ·subst hq; rw [List.getElem?_eq_none (by omega)]; rfl
    ·simp [hq]
   rw [this]; exact h j hj
theorem Lz {d : Desk} (h : d.ok) (hl : d.all.length <= 22) (st : List Int) : (MC d st).ok := by
 have ho := h.out
 have hX : (MC d st).all = (EL d.out d.nR st d.all 0).1 ++ [(⟨d.out, wr (d.out + 1), ⟨-100000000, 100000000⟩, (EL d.out d.nR st d.all 0).2⟩ : Way)] := rfl
 have hO : (MC d st).out = d.out := rfl
 have hR : (MC d st).nR = d.nR := rfl
 have hL : (MC d st).all.length = d.all.length + 1 := by rw [hX, List.length_append, SO]; rfl
 refine ⟨by rw [hO]; exact h.out, by rw [hL]; omega, by rw [hL, hO, hR]; have := h.cut; omega, λ i hi => ?_⟩
 rw [hL] at hi
 rw [hX, hO, CA, SO]
 split
 ·rename_i hlt; exact WX d.out d.nR ho st d.all 0 h.ends i hlt
 ·have : i = d.all.length := by omega
  subst this
  have e : wr ((d.out : Int) + 1) = d.out + 1 := DR (by omega) (by omega)
  rw [Nat.sub_self, e]
  show (0 <= (d.out : Int) /\ (d.out : Int) < d.out + 2) /\ 0 <= (d.out : Int) + 1 /\ (d.out : Int) + 1 < d.out + 2
  omega
theorem Dc {n : Nat} (hn : 1 <= n /\ n <= 8) : ∀ {l : List Int} {last : Int}, -1 <= last -> last <= 100 -> grpBad n last l = false -> ∀ i, i < l.length -> 0 <= gD l i /\ gD l i < n
 | [], _, _, _, _, i, hi => by simp at hi
 | s :: l, last, h0, h1, h, i, hi => by
  simp only [grpBad, Bool.or_eq_false_iff, Bool.not_eq_false'] at h
  obtain ⟨h2, h3⟩ := h
  have h2 := IH.1 h2
  rw [DR (n := last + 1) (by omega) (by omega), DR (n := (n : Int) - 1) (by omega) (by omega)] at h2
  cases i with
  | zero => show 0 <= s /\ s < n; omega
  | succ i => exact Dc hn (by omega) (by omega) h3 i (by simpa using hi)
theorem p35 (a : NGr) (h1 : AD a.N = 0) (h2 : (AT a.N).isSome = true) (h3 : ¬ 0 < CJ a.N) (h4 : grpBad a.N.g.length (-1) a.st = false) (h5 : 0 < a.st.length /\ a.st.length <= 1000000) (h6 : (EI (MC (AA a.N) a.st) (AA a.N).all.length).isSome = true) : V35 a := by
 obtain ⟨l1, l2, l3⟩ := IZ h2
 have hg := DD h1
 have g1 := hg.g1
 have g8 := hg.g8
 have r14 := hg.r14
 have hok := Eu h1 h2
 have hgok := Lz hok (by omega) a.st
 have hin := Dc ⟨g1, g8⟩ (by omega) (by omega) h4
 rw [vc35]; simp only [CC, eq_self, implies_true, forall_const, DL.d6, DL.d7, DL.d8, QV, h1]
 refine ⟨⟨⟨-1, 0⟩, ⟨rfl, rfl⟩, Nat.zero_le _, h4⟩, λ s ⟨q1, q2⟩ => ⟨λ hlt => ⟨⟨by omega, hlt⟩, λ hc => ?_, λ hc => ?_⟩, λ hge => ⟨λ hc => ?_, λ hc => ⟨⟨h2, h3⟩, ⟨by omega, by omega⟩, ⟨⟨(AA a.N).all, 0, 0⟩, ⟨rfl, rfl, rfl, rfl, λ _ _ => ⟨rfl, rfl, rfl, rfl, rfl⟩⟩, Nat.zero_le _, rfl, rfl⟩, λ s ⟨q3, q4, q5⟩ => ⟨λ hlt => ?_, λ hge => ?_⟩⟩⟩⟩⟩
 ·rw [DX (by omega)] at q2
  simp only [grpBad, Bool.or_eq_false_iff, Bool.not_eq_false'] at q2
  have hc : (!GD (gD a.st s.k) (wr (s.last + 1)) (wr ((a.N.g.length : Int) - 1))) = true := hc
  rw [q2.1] at hc; cases hc
 ·rw [DX (by omega)] at q2
  simp only [grpBad, Bool.or_eq_false_iff, Bool.not_eq_false'] at q2
  exact ⟨⟨gD a.st s.k, s.k + 1⟩, ⟨rfl, (BB (by omega)).symm⟩, ⟨by show s.k + 1 <= _; omega, q2.2⟩, by show _ - (s.k + 1) < _; omega⟩
 ·have hc : ((a.st.length : Int) == 0) = true := hc
  have : (a.st.length : Int) = 0 := by simpa using hc
  omega
 ·have hk : s.k < a.st.length := by omega
  obtain ⟨i1, i2⟩ := hin s.k hk
  have e : wr (((AA a.N).nR : Int) + gD a.st s.k) = (AA a.N).nR + gD a.st s.k := DR (by omega) (by omega)
  have e' : IntKind.i64.wrap (((AA a.N).nR : Int) + gD a.st s.k) = (AA a.N).nR + gD a.st s.k := e
  rw [DX hk] at q5
  simp only [EL, e] at q5
  simp only [e']
  have hb : ((AA a.N).nR + gD a.st s.k).toNat < s.all.length := by omega
  refine ⟨⟨by omega, hlt⟩, ⟨by omega, by omega⟩, hb, hb, ⟨s.all.modify ((AA a.N).nR + gD a.st s.k).toNat (λ w => { w with fr := wr ((AA a.N).out + 1) }), s.k + 1, wr (s.total + (gD s.all ((AA a.N).nR + gD a.st s.k).toNat).now)⟩, ⟨?_, (BB (by omega)).symm, ?_, ?_, λ i hi => ?_⟩, ⟨by show s.k + 1 <= _; omega, ?_, q5⟩, by show _ - (s.k + 1) < _; omega⟩
  ·simp
  ·simp
  ·simp
  ·simp only
   rw [BR hb]
   by_cases he : i = ((AA a.N).nR + gD a.st s.k).toNat
   ·simp [he]
   ·simp [he]
  ·simpa using q4
 ·have hk : s.k = a.st.length := by omega
  rw [hk, List.drop_eq_nil_of_le (Nat.le_refl _)] at q5
  have q5 : (s.all, s.total) = EL (AA a.N).out (AA a.N).nR a.st (AA a.N).all 0 := q5
  have hgd : Desk.mk (s.all ++ [(⟨(AA a.N).out, wr ((AA a.N).out + 1), ⟨-100000000, 100000000⟩, s.total⟩ : Way)]) (AA a.N).out (AA a.N).nR = MC (AA a.N) a.st := by
   unfold MC; rw [<- q5]
  have hgi : ∀ i, i < (AA a.N).all.length - 0 + 1 -> gD (s.all ++ [(⟨(AA a.N).out, wr ((AA a.N).out + 1), ⟨-100000000, 100000000⟩, s.total⟩ : Way)]) i = if i < (AA a.N).all.length then gD s.all i else ⟨(AA a.N).out, wr ((AA a.N).out + 1), ⟨-100000000, 100000000⟩, s.total⟩ := λ i hi => by
   rw [CA, q4]
   split
   ·rfl
   ·have : i = (AA a.N).all.length := by omega
    subst this; rw [Nat.sub_self]; rfl
  rw [Oc s.all _ q4]
  have hgi' := hgi
  simp only [hgd] at hgi' ⊢
  refine ⟨⟨⟨by omega, by omega, by omega, Nat.le_refl _⟩, by omega, by omega, by omega, by omega⟩, ⟨λ i hi => ?_, λ i hi => ?_, hgok, ⟨by omega, by omega⟩, h6⟩, ?_⟩
  ·rw [hgi i hi]
   by_cases h : i < (AA a.N).all.length
   ·simp [h]
   ·simp [h]
  ·rw [hgi i hi]
   by_cases h : i < (AA a.N).all.length
   ·simp [h]
   ·simp [h]
  ·exact ⟨rfl, rfl⟩
def d35 : List AVal -> Heap -> Option (NGr × List (Nat × Nat) × List Nat)
 | [.d x, .d (.list _ n g _)], _ => match LW x with
  | some N => some (⟨N, AC n λ i => EW (g i)⟩, [], [])
  | none => none
 | [.d x, .own id _ _ n], H => match LW x, H id with
  | some N, .live (.row _ _ g) => some (⟨N, AC n λ i => EW (g i)⟩, [], [id])
  | _, _ => none
 | _, _ => none
theorem ok35 : AL Try.prog 35 (C35.spec d35) := JC C35 A35 [] [] Try.func35 (λ _ => by kernel_rfl) (λ _ => AB Ul (AB Rm (AB Sr (AB Wb (AB Sp AH))))) (λ a h => p35 a h.1 h.2.1 h.2.2.1 h.2.2.2.1 h.2.2.2.2.1 h.2.2.2.2.2) (λ _ => KF rfl rfl) _
end Go.Bal
