/- Package balance: Group. -/
import Derived.Test.YtonddbmhljelgaaBalN
set_option linter.unusedVariables false
set_option linter.unusedSimpArgs false
namespace Go.Bal
open Go Go.Sym Go.Proofs
structure NGr where
  N : NetL
  st : List Int
structure SL where
  last : Int
  k : Nat
  deriving Inhabited
structure GK where
  all : List Way
  k : Nat
  total : Int
  deriving Inhabited
def grpBad (n : Nat) : Int → List Int → Bool
  | _, [] => false
  | last, s :: l => !inM s (wr (last + 1)) (wr ((n : Int) - 1)) || grpBad n s l
def grpAll (out nR : Nat) : List Int → List Way → Int → List Way × Int
  | [], all, t => (all, t)
  | s :: l, all, t => grpAll out nR l (all.modify (wr (nR + s)).toNat fun w => { w with fr := wr (out + 1) }) (wr (t + (gD all (wr (nR + s)).toNat).now))
def groupD (d : Desk) (st : List Int) : Desk := ⟨(grpAll d.out d.nR st d.all 0).1 ++ [⟨d.out, wr (d.out + 1), ⟨-100000000, 100000000⟩, (grpAll d.out d.nR st d.all 0).2⟩], d.out, d.nR⟩
def grpS (a : NGr) : Span := (spanV (groupD (setD a.N) a.st) (setD a.N).all.length).getD default
def A35 (a : NGr) : Ann := { ann 129 [(44, s44), (62, s62), (73, C73.spec d67), (75, C75.spec dDesk), (74, C74.spec dDI)] with mt := fun id => id == 27, loops := fun id => if id = 4 then some [{ α := SL, dflt := default, T := fun s => ⟨[(1, .d (eIntsL a.st)), (2, .bptr 200 0), (4, .bptr 201 0), (6, .int 0), (7, .int s.last), (19, .d (eIntsL a.st)), (20, .int a.st.length), (21, .int s.k)], [(200, begO a.N), (201, .live (.box [.int 0, .int 0]))]⟩, inv := fun s => s.k ≤ a.st.length ∧ grpBad a.N.g.length s.last (a.st.drop s.k) = false, meas := fun s => a.st.length - s.k, first := [(200, 1000), (201, 1016)] }] else if id = 21 then some [{ α := GK, dflt := default, T := fun s => ⟨[(4, .bptr 201 0), (10, .bptr 301 0), (11, .int (wr ((setD a.N).out + 1))), (12, .int (setD a.N).all.length), (13, .int s.total), (74, .d (eIntsL a.st)), (75, .int a.st.length), (76, .int s.k)], [(201, .live (.box [.int 0, .int 0])), (301, .live (deskB (Desk.mk s.all (setD a.N).out (setD a.N).nR) 302)), (302, .live (deskR (Desk.mk s.all (setD a.N).out (setD a.N).nR)))]⟩, inv := fun s => s.k ≤ a.st.length ∧ s.all.length = (setD a.N).all.length ∧ grpAll (setD a.N).out (setD a.N).nR (a.st.drop s.k) s.all s.total = grpAll (setD a.N).out (setD a.N).nR a.st (setD a.N).all 0, meas := fun s => a.st.length - s.k, first := [(301, 18016), (302, 18017)] }] else none }
def xs35 (a : NGr) : List AVal := [.d (eNetL a.N), .d (eIntsL a.st)]
def C35 : Ctr := { α := NGr, xs := xs35, L := fun _ => [], val := fun a => .tup [.d (eSpan (grpS a)), .int 0], keep := fun _ => [], pre := fun a => [checkL a.N = 0, (settledV a.N).isSome = true, ¬ 0 < setC a.N, grpBad a.N.g.length (-1) a.st = false, 0 < a.st.length ∧ a.st.length ≤ 1000000, (spanV (groupD (setD a.N) a.st) (setD a.N).all.length).isSome = true] }
def V35 (a : NGr) : Prop := fnVC Try.prog (A35 a) Try.f35 (bodyOf Try.f35) (C35.xs a) (heapOf (C35.L a)) (C35.val a) (C35.keep a) [] []
theorem vc35 (a : NGr) : (V35 a) = (((∀ (i : Nat), i < a.N.g.length → True) ∧ ∀ (i : Nat), i < a.N.r.length → True) ∧ (∃ (a_1 : SL), (a.st.length = a.st.length ∧ (∀ (i : Nat), i < a.st.length → gD a.st i = gD a.st i) ∧
 (0 : Int) = checkM (Net.mk a.N.g.length (fun (i : Nat) => gD a.N.g i) a.N.r.length fun (i : Nat) => gD a.N.r i) ∧ a_1.last = (-1 : Int) ∧ a.st.length = a.st.length ∧ (∀ (i : Nat), i < a.st.length → gD a.st i = gD a.st i)
 ∧ (↑a.st.length : Int) = (↑a.st.length : Int) ∧ (↑a_1.k : Int) = (0 : Int) ∧ a.N.g.length = a.N.g.length ∧ (∀ (i : Nat), i < a.N.g.length → (gD a.N.g i).lo = (gD a.N.g i).lo ∧ (gD a.N.g i).hi = (gD a.N.g i).hi) ∧
 a.N.r.length = a.N.r.length ∧ (∀ (i : Nat), i < a.N.r.length → (gD a.N.r i).fr = (gD a.N.r i).fr ∧ (gD a.N.r i).to = (gD a.N.r i).to ∧ (gD a.N.r i).sp.lo = (gD a.N.r i).sp.lo ∧ (gD a.N.r i).sp.hi = (gD a.N.r i).sp.hi) ∧
 Int.ofNat (0 : Nat) = Int.ofNat (0 : Nat) ∧ Int.ofNat (0 : Nat) = Int.ofNat (0 : Nat)) ∧ a_1.k ≤ a.st.length ∧ grpBad a.N.g.length a_1.last (List.drop a_1.k a.st) = false) ∧ ∀ (a_1 : SL), a_1.k ≤ a.st.length ∧ grpBad
 a.N.g.length a_1.last (List.drop a_1.k a.st) = false → bif decide ((↑a_1.k : Int) < (↑a.st.length : Int)) then ((0 : Int) ≤ (↑a_1.k : Int) ∧ (↑a_1.k : Int) < (↑a.st.length : Int)) ∧ bif bif (0 : Int) == (0 : Int) then
 !inM (gD a.st a_1.k) (IntKind.i64.wrap (a_1.last + (1 : Int))) (IntKind.i64.wrap ((↑a.N.g.length : Int) - (1 : Int))) else false then ∃ (a_3 : SL), (a.st.length = a.st.length ∧ (∀ (i : Nat), i < a.st.length → gD a.st i =
 gD a.st i) ∧ Int.ofNat (0 : Nat) = Int.ofNat (2 : Nat) ∧ a_3.last = gD a.st a_1.k ∧ a.st.length = a.st.length ∧ (∀ (i : Nat), i < a.st.length → gD a.st i = gD a.st i) ∧ (↑a.st.length : Int) = (↑a.st.length : Int) ∧
 (↑a_3.k : Int) = IntKind.i64.wrap ((↑a_1.k : Int) + (1 : Int)) ∧ a.N.g.length = a.N.g.length ∧ (∀ (i : Nat), i < a.N.g.length → (gD a.N.g i).lo = (gD a.N.g i).lo ∧ (gD a.N.g i).hi = (gD a.N.g i).hi) ∧ a.N.r.length =
 a.N.r.length ∧ (∀ (i : Nat), i < a.N.r.length → (gD a.N.r i).fr = (gD a.N.r i).fr ∧ (gD a.N.r i).to = (gD a.N.r i).to ∧ (gD a.N.r i).sp.lo = (gD a.N.r i).sp.lo ∧ (gD a.N.r i).sp.hi = (gD a.N.r i).sp.hi) ∧ Int.ofNat (0 :
 Nat) = Int.ofNat (0 : Nat) ∧ Int.ofNat (0 : Nat) = Int.ofNat (0 : Nat)) ∧ (a_3.k ≤ a.st.length ∧ grpBad a.N.g.length a_3.last (List.drop a_3.k a.st) = false) ∧ a.st.length - a_3.k < a.st.length - a_1.k else ∃ (a_3 : SL),
 (a.st.length = a.st.length ∧ (∀ (i : Nat), i < a.st.length → gD a.st i = gD a.st i) ∧ Int.ofNat (0 : Nat) = Int.ofNat (0 : Nat) ∧ a_3.last = gD a.st a_1.k ∧ a.st.length = a.st.length ∧ (∀ (i : Nat), i < a.st.length → gD
 a.st i = gD a.st i) ∧ (↑a.st.length : Int) = (↑a.st.length : Int) ∧ (↑a_3.k : Int) = IntKind.i64.wrap ((↑a_1.k : Int) + (1 : Int)) ∧ a.N.g.length = a.N.g.length ∧ (∀ (i : Nat), i < a.N.g.length → (gD a.N.g i).lo = (gD
 a.N.g i).lo ∧ (gD a.N.g i).hi = (gD a.N.g i).hi) ∧ a.N.r.length = a.N.r.length ∧ (∀ (i : Nat), i < a.N.r.length → (gD a.N.r i).fr = (gD a.N.r i).fr ∧ (gD a.N.r i).to = (gD a.N.r i).to ∧ (gD a.N.r i).sp.lo = (gD a.N.r
 i).sp.lo ∧ (gD a.N.r i).sp.hi = (gD a.N.r i).sp.hi) ∧ Int.ofNat (0 : Nat) = Int.ofNat (0 : Nat) ∧ Int.ofNat (0 : Nat) = Int.ofNat (0 : Nat)) ∧ (a_3.k ≤ a.st.length ∧ grpBad a.N.g.length a_3.last (List.drop a_3.k a.st) =
 false) ∧ a.st.length - a_3.k < a.st.length - a_1.k else bif bif (0 : Int) == (0 : Int) then (↑a.st.length : Int) == (0 : Int) else false then (grpS a).lo = (0 : Int) ∧ (grpS a).hi = (0 : Int) ∧ Int.ofNat (0 : Nat) =
 Int.ofNat (2 : Nat) else ((rng a.N.g.length fun (i : Nat) => gD a.N.g i).length = a.N.g.length ∧ (∀ (i : Nat), i < (rng a.N.g.length fun (i : Nat) => gD a.N.g i).length → (gD (rng a.N.g.length fun (i : Nat) => gD a.N.g
 i) i).lo = (gD a.N.g i).lo ∧ (gD (rng a.N.g.length fun (i : Nat) => gD a.N.g i) i).hi = (gD a.N.g i).hi) ∧ (rng a.N.r.length fun (i : Nat) => gD a.N.r i).length = a.N.r.length ∧ (∀ (i : Nat), i < (rng a.N.r.length fun (i
 : Nat) => gD a.N.r i).length → (gD (rng a.N.r.length fun (i : Nat) => gD a.N.r i) i).fr = (gD a.N.r i).fr ∧ (gD (rng a.N.r.length fun (i : Nat) => gD a.N.r i) i).to = (gD a.N.r i).to ∧ (gD (rng a.N.r.length fun (i : Nat)
 => gD a.N.r i) i).sp.lo = (gD a.N.r i).sp.lo ∧ (gD (rng a.N.r.length fun (i : Nat) => gD a.N.r i) i).sp.hi = (gD a.N.r i).sp.hi) ∧ checkL (NetL.mk (rng a.N.g.length fun (i : Nat) => gD a.N.g i) (rng a.N.r.length fun (i :
 Nat) => gD a.N.r i)) = (0 : Int) ∧ (settledV (NetL.mk (rng a.N.g.length fun (i : Nat) => gD a.N.g i) (rng a.N.r.length fun (i : Nat) => gD a.N.r i))).isSome = true ∧ ((0 : Int) < setC (NetL.mk (rng a.N.g.length fun (i :
 Nat) => gD a.N.g i) (rng a.N.r.length fun (i : Nat) => gD a.N.r i)) → False)) ∧ ((0 : Nat) = (0 : Nat) ∧ (rng (setD (NetL.mk (rng a.N.g.length fun (i : Nat) => gD a.N.g i) (rng a.N.r.length fun (i : Nat) => gD a.N.r
 i))).all.length fun (i : Nat) => gD (setD (NetL.mk (rng a.N.g.length fun (i : Nat) => gD a.N.g i) (rng a.N.r.length fun (i : Nat) => gD a.N.r i))).all i).length = (setD (NetL.mk (rng a.N.g.length fun (i : Nat) => gD
 a.N.g i) (rng a.N.r.length fun (i : Nat) => gD a.N.r i))).all.length ∧ (↑(setD (NetL.mk (rng a.N.g.length fun (i : Nat) => gD a.N.g i) (rng a.N.r.length fun (i : Nat) => gD a.N.r i))).out : Int) = (↑(setD (NetL.mk (rng
 a.N.g.length fun (i : Nat) => gD a.N.g i) (rng a.N.r.length fun (i : Nat) => gD a.N.r i))).out : Int) ∧ (↑(setD (NetL.mk (rng a.N.g.length fun (i : Nat) => gD a.N.g i) (rng a.N.r.length fun (i : Nat) => gD a.N.r i))).nR
 : Int) = (↑(setD (NetL.mk (rng a.N.g.length fun (i : Nat) => gD a.N.g i) (rng a.N.r.length fun (i : Nat) => gD a.N.r i))).nR : Int) ∧ (rng (setD (NetL.mk (rng a.N.g.length fun (i : Nat) => gD a.N.g i) (rng a.N.r.length
 fun (i : Nat) => gD a.N.r i))).all.length fun (i : Nat) => gD (setD (NetL.mk (rng a.N.g.length fun (i : Nat) => gD a.N.g i) (rng a.N.r.length fun (i : Nat) => gD a.N.r i))).all i).length = (setD (NetL.mk (rng
 a.N.g.length fun (i : Nat) => gD a.N.g i) (rng a.N.r.length fun (i : Nat) => gD a.N.r i))).all.length ∧ (∀ (i : Nat), i < (rng (setD (NetL.mk (rng a.N.g.length fun (i : Nat) => gD a.N.g i) (rng a.N.r.length fun (i : Nat)
 => gD a.N.r i))).all.length fun (i : Nat) => gD (setD (NetL.mk (rng a.N.g.length fun (i : Nat) => gD a.N.g i) (rng a.N.r.length fun (i : Nat) => gD a.N.r i))).all i).length → (gD (rng (setD (NetL.mk (rng a.N.g.length fun
 (i : Nat) => gD a.N.g i) (rng a.N.r.length fun (i : Nat) => gD a.N.r i))).all.length fun (i : Nat) => gD (setD (NetL.mk (rng a.N.g.length fun (i : Nat) => gD a.N.g i) (rng a.N.r.length fun (i : Nat) => gD a.N.r i))).all
 i) i).fr = (gD (setD (NetL.mk (rng a.N.g.length fun (i : Nat) => gD a.N.g i) (rng a.N.r.length fun (i : Nat) => gD a.N.r i))).all i).fr ∧ (gD (rng (setD (NetL.mk (rng a.N.g.length fun (i : Nat) => gD a.N.g i) (rng
 a.N.r.length fun (i : Nat) => gD a.N.r i))).all.length fun (i : Nat) => gD (setD (NetL.mk (rng a.N.g.length fun (i : Nat) => gD a.N.g i) (rng a.N.r.length fun (i : Nat) => gD a.N.r i))).all i) i).to = (gD (setD (NetL.mk
 (rng a.N.g.length fun (i : Nat) => gD a.N.g i) (rng a.N.r.length fun (i : Nat) => gD a.N.r i))).all i).to ∧ (gD (rng (setD (NetL.mk (rng a.N.g.length fun (i : Nat) => gD a.N.g i) (rng a.N.r.length fun (i : Nat) => gD
 a.N.r i))).all.length fun (i : Nat) => gD (setD (NetL.mk (rng a.N.g.length fun (i : Nat) => gD a.N.g i) (rng a.N.r.length fun (i : Nat) => gD a.N.r i))).all i) i).sp.lo = (gD (setD (NetL.mk (rng a.N.g.length fun (i :
 Nat) => gD a.N.g i) (rng a.N.r.length fun (i : Nat) => gD a.N.r i))).all i).sp.lo ∧ (gD (rng (setD (NetL.mk (rng a.N.g.length fun (i : Nat) => gD a.N.g i) (rng a.N.r.length fun (i : Nat) => gD a.N.r i))).all.length fun
 (i : Nat) => gD (setD (NetL.mk (rng a.N.g.length fun (i : Nat) => gD a.N.g i) (rng a.N.r.length fun (i : Nat) => gD a.N.r i))).all i) i).sp.hi = (gD (setD (NetL.mk (rng a.N.g.length fun (i : Nat) => gD a.N.g i) (rng
 a.N.r.length fun (i : Nat) => gD a.N.r i))).all i).sp.hi ∧ (gD (rng (setD (NetL.mk (rng a.N.g.length fun (i : Nat) => gD a.N.g i) (rng a.N.r.length fun (i : Nat) => gD a.N.r i))).all.length fun (i : Nat) => gD (setD
 (NetL.mk (rng a.N.g.length fun (i : Nat) => gD a.N.g i) (rng a.N.r.length fun (i : Nat) => gD a.N.r i))).all i) i).now = (gD (setD (NetL.mk (rng a.N.g.length fun (i : Nat) => gD a.N.g i) (rng a.N.r.length fun (i : Nat)
 => gD a.N.r i))).all i).now) ∧ (0 : Nat) = (0 : Nat) ∧ (setD (NetL.mk (rng a.N.g.length fun (i : Nat) => gD a.N.g i) (rng a.N.r.length fun (i : Nat) => gD a.N.r i))).all.length = (rng (setD (NetL.mk (rng a.N.g.length fun
 (i : Nat) => gD a.N.g i) (rng a.N.r.length fun (i : Nat) => gD a.N.r i))).all.length fun (i : Nat) => gD (setD (NetL.mk (rng a.N.g.length fun (i : Nat) => gD a.N.g i) (rng a.N.r.length fun (i : Nat) => gD a.N.r i))).all
 i).length ∧ (↑(setD (NetL.mk (rng a.N.g.length fun (i : Nat) => gD a.N.g i) (rng a.N.r.length fun (i : Nat) => gD a.N.r i))).out : Int) = (↑(setD (NetL.mk (rng a.N.g.length fun (i : Nat) => gD a.N.g i) (rng a.N.r.length
 fun (i : Nat) => gD a.N.r i))).out : Int) ∧ (↑(setD (NetL.mk (rng a.N.g.length fun (i : Nat) => gD a.N.g i) (rng a.N.r.length fun (i : Nat) => gD a.N.r i))).nR : Int) = (↑(setD (NetL.mk (rng a.N.g.length fun (i : Nat) =>
 gD a.N.g i) (rng a.N.r.length fun (i : Nat) => gD a.N.r i))).nR : Int) ∧ (setD (NetL.mk (rng a.N.g.length fun (i : Nat) => gD a.N.g i) (rng a.N.r.length fun (i : Nat) => gD a.N.r i))).all.length = (rng (setD (NetL.mk
 (rng a.N.g.length fun (i : Nat) => gD a.N.g i) (rng a.N.r.length fun (i : Nat) => gD a.N.r i))).all.length fun (i : Nat) => gD (setD (NetL.mk (rng a.N.g.length fun (i : Nat) => gD a.N.g i) (rng a.N.r.length fun (i : Nat)
 => gD a.N.r i))).all i).length ∧ (∀ (i : Nat), i < (setD (NetL.mk (rng a.N.g.length fun (i : Nat) => gD a.N.g i) (rng a.N.r.length fun (i : Nat) => gD a.N.r i))).all.length → (gD (setD (NetL.mk (rng a.N.g.length fun (i :
 Nat) => gD a.N.g i) (rng a.N.r.length fun (i : Nat) => gD a.N.r i))).all i).fr = (gD (rng (setD (NetL.mk (rng a.N.g.length fun (i : Nat) => gD a.N.g i) (rng a.N.r.length fun (i : Nat) => gD a.N.r i))).all.length fun (i :
 Nat) => gD (setD (NetL.mk (rng a.N.g.length fun (i : Nat) => gD a.N.g i) (rng a.N.r.length fun (i : Nat) => gD a.N.r i))).all i) i).fr ∧ (gD (setD (NetL.mk (rng a.N.g.length fun (i : Nat) => gD a.N.g i) (rng a.N.r.length
 fun (i : Nat) => gD a.N.r i))).all i).to = (gD (rng (setD (NetL.mk (rng a.N.g.length fun (i : Nat) => gD a.N.g i) (rng a.N.r.length fun (i : Nat) => gD a.N.r i))).all.length fun (i : Nat) => gD (setD (NetL.mk (rng
 a.N.g.length fun (i : Nat) => gD a.N.g i) (rng a.N.r.length fun (i : Nat) => gD a.N.r i))).all i) i).to ∧ (gD (setD (NetL.mk (rng a.N.g.length fun (i : Nat) => gD a.N.g i) (rng a.N.r.length fun (i : Nat) => gD a.N.r
 i))).all i).sp.lo = (gD (rng (setD (NetL.mk (rng a.N.g.length fun (i : Nat) => gD a.N.g i) (rng a.N.r.length fun (i : Nat) => gD a.N.r i))).all.length fun (i : Nat) => gD (setD (NetL.mk (rng a.N.g.length fun (i : Nat) =>
 gD a.N.g i) (rng a.N.r.length fun (i : Nat) => gD a.N.r i))).all i) i).sp.lo ∧ (gD (setD (NetL.mk (rng a.N.g.length fun (i : Nat) => gD a.N.g i) (rng a.N.r.length fun (i : Nat) => gD a.N.r i))).all i).sp.hi = (gD (rng
 (setD (NetL.mk (rng a.N.g.length fun (i : Nat) => gD a.N.g i) (rng a.N.r.length fun (i : Nat) => gD a.N.r i))).all.length fun (i : Nat) => gD (setD (NetL.mk (rng a.N.g.length fun (i : Nat) => gD a.N.g i) (rng
 a.N.r.length fun (i : Nat) => gD a.N.r i))).all i) i).sp.hi ∧ (gD (setD (NetL.mk (rng a.N.g.length fun (i : Nat) => gD a.N.g i) (rng a.N.r.length fun (i : Nat) => gD a.N.r i))).all i).now = (gD (rng (setD (NetL.mk (rng
 a.N.g.length fun (i : Nat) => gD a.N.g i) (rng a.N.r.length fun (i : Nat) => gD a.N.r i))).all.length fun (i : Nat) => gD (setD (NetL.mk (rng a.N.g.length fun (i : Nat) => gD a.N.g i) (rng a.N.r.length fun (i : Nat) =>
 gD a.N.r i))).all i) i).now) ∧ (0 : Nat) < (rng (setD (NetL.mk (rng a.N.g.length fun (i : Nat) => gD a.N.g i) (rng a.N.r.length fun (i : Nat) => gD a.N.r i))).all.length fun (i : Nat) => gD (setD (NetL.mk (rng
 a.N.g.length fun (i : Nat) => gD a.N.g i) (rng a.N.r.length fun (i : Nat) => gD a.N.r i))).all i).length ∧ (rng (setD (NetL.mk (rng a.N.g.length fun (i : Nat) => gD a.N.g i) (rng a.N.r.length fun (i : Nat) => gD a.N.r
 i))).all.length fun (i : Nat) => gD (setD (NetL.mk (rng a.N.g.length fun (i : Nat) => gD a.N.g i) (rng a.N.r.length fun (i : Nat) => gD a.N.r i))).all i).length ≤ (1000 : Nat)) ∧ (∃ (a_3 : GK), (wr ((↑(setD a.N).out :
 Int) + (1 : Int)) = IntKind.i64.wrap ((↑(setD (NetL.mk (rng a.N.g.length fun (i : Nat) => gD a.N.g i) (rng a.N.r.length fun (i : Nat) => gD a.N.r i))).out : Int) + (1 : Int)) ∧ (↑(setD a.N).all.length : Int) = (↑(rng
 (setD (NetL.mk (rng a.N.g.length fun (i : Nat) => gD a.N.g i) (rng a.N.r.length fun (i : Nat) => gD a.N.r i))).all.length fun (i : Nat) => gD (setD (NetL.mk (rng a.N.g.length fun (i : Nat) => gD a.N.g i) (rng
 a.N.r.length fun (i : Nat) => gD a.N.r i))).all i).length : Int) ∧ a_3.total = (0 : Int) ∧ a.st.length = a.st.length ∧ (∀ (i : Nat), i < a.st.length → gD a.st i = gD a.st i) ∧ (↑a.st.length : Int) = (↑a.st.length : Int)
 ∧ (↑a_3.k : Int) = (0 : Int) ∧ Int.ofNat (0 : Nat) = Int.ofNat (0 : Nat) ∧ Int.ofNat (0 : Nat) = Int.ofNat (0 : Nat) ∧ (0 : Nat) = (0 : Nat) ∧ a_3.all.length = (rng (setD (NetL.mk (rng a.N.g.length fun (i : Nat) => gD
 a.N.g i) (rng a.N.r.length fun (i : Nat) => gD a.N.r i))).all.length fun (i : Nat) => gD (setD (NetL.mk (rng a.N.g.length fun (i : Nat) => gD a.N.g i) (rng a.N.r.length fun (i : Nat) => gD a.N.r i))).all i).length ∧
 (↑(setD a.N).out : Int) = (↑(setD (NetL.mk (rng a.N.g.length fun (i : Nat) => gD a.N.g i) (rng a.N.r.length fun (i : Nat) => gD a.N.r i))).out : Int) ∧ (↑(setD a.N).nR : Int) = (↑(setD (NetL.mk (rng a.N.g.length fun (i :
 Nat) => gD a.N.g i) (rng a.N.r.length fun (i : Nat) => gD a.N.r i))).nR : Int) ∧ a_3.all.length = (rng (setD (NetL.mk (rng a.N.g.length fun (i : Nat) => gD a.N.g i) (rng a.N.r.length fun (i : Nat) => gD a.N.r
 i))).all.length fun (i : Nat) => gD (setD (NetL.mk (rng a.N.g.length fun (i : Nat) => gD a.N.g i) (rng a.N.r.length fun (i : Nat) => gD a.N.r i))).all i).length ∧ ∀ (i : Nat), i < a_3.all.length → (gD a_3.all i).fr = (gD
 (rng (setD (NetL.mk (rng a.N.g.length fun (i : Nat) => gD a.N.g i) (rng a.N.r.length fun (i : Nat) => gD a.N.r i))).all.length fun (i : Nat) => gD (setD (NetL.mk (rng a.N.g.length fun (i : Nat) => gD a.N.g i) (rng
 a.N.r.length fun (i : Nat) => gD a.N.r i))).all i) i).fr ∧ (gD a_3.all i).to = (gD (rng (setD (NetL.mk (rng a.N.g.length fun (i : Nat) => gD a.N.g i) (rng a.N.r.length fun (i : Nat) => gD a.N.r i))).all.length fun (i :
 Nat) => gD (setD (NetL.mk (rng a.N.g.length fun (i : Nat) => gD a.N.g i) (rng a.N.r.length fun (i : Nat) => gD a.N.r i))).all i) i).to ∧ (gD a_3.all i).sp.lo = (gD (rng (setD (NetL.mk (rng a.N.g.length fun (i : Nat) =>
 gD a.N.g i) (rng a.N.r.length fun (i : Nat) => gD a.N.r i))).all.length fun (i : Nat) => gD (setD (NetL.mk (rng a.N.g.length fun (i : Nat) => gD a.N.g i) (rng a.N.r.length fun (i : Nat) => gD a.N.r i))).all i) i).sp.lo ∧
 (gD a_3.all i).sp.hi = (gD (rng (setD (NetL.mk (rng a.N.g.length fun (i : Nat) => gD a.N.g i) (rng a.N.r.length fun (i : Nat) => gD a.N.r i))).all.length fun (i : Nat) => gD (setD (NetL.mk (rng a.N.g.length fun (i : Nat)
 => gD a.N.g i) (rng a.N.r.length fun (i : Nat) => gD a.N.r i))).all i) i).sp.hi ∧ (gD a_3.all i).now = (gD (rng (setD (NetL.mk (rng a.N.g.length fun (i : Nat) => gD a.N.g i) (rng a.N.r.length fun (i : Nat) => gD a.N.r
 i))).all.length fun (i : Nat) => gD (setD (NetL.mk (rng a.N.g.length fun (i : Nat) => gD a.N.g i) (rng a.N.r.length fun (i : Nat) => gD a.N.r i))).all i) i).now) ∧ a_3.k ≤ a.st.length ∧ a_3.all.length = (setD
 a.N).all.length ∧ grpAll (setD a.N).out (setD a.N).nR (List.drop a_3.k a.st) a_3.all a_3.total = grpAll (setD a.N).out (setD a.N).nR a.st (setD a.N).all (0 : Int)) ∧ ∀ (a_3 : GK), a_3.k ≤ a.st.length ∧ a_3.all.length =
 (setD a.N).all.length ∧ grpAll (setD a.N).out (setD a.N).nR (List.drop a_3.k a.st) a_3.all a_3.total = grpAll (setD a.N).out (setD a.N).nR a.st (setD a.N).all (0 : Int) → bif decide ((↑a_3.k : Int) < (↑a.st.length :
 Int)) then ((0 : Int) ≤ (↑a_3.k : Int) ∧ (↑a_3.k : Int) < (↑a.st.length : Int)) ∧ ((0 : Int) ≤ IntKind.i64.wrap ((↑(setD a.N).nR : Int) + gD a.st a_3.k) ∧ IntKind.i64.wrap ((↑(setD a.N).nR : Int) + gD a.st a_3.k) <
 (↑a_3.all.length : Int)) ∧ ((0 : Nat) + (IntKind.i64.wrap ((↑(setD a.N).nR : Int) + gD a.st a_3.k)).toNat).succ.le a_3.all.length ∧ ((0 : Nat) + (IntKind.i64.wrap ((↑(setD a.N).nR : Int) + gD a.st a_3.k)).toNat).succ.le
 a_3.all.length ∧ ∃ (a_5 : GK), (wr ((↑(setD a.N).out : Int) + (1 : Int)) = wr ((↑(setD a.N).out : Int) + (1 : Int)) ∧ (↑(setD a.N).all.length : Int) = (↑(setD a.N).all.length : Int) ∧ a_5.total = IntKind.i64.wrap
 (a_3.total + bif decide ((0 : Nat) + (IntKind.i64.wrap ((↑(setD a.N).nR : Int) + gD a.st a_3.k)).toNat = (0 : Nat) + (IntKind.i64.wrap ((↑(setD a.N).nR : Int) + gD a.st a_3.k)).toNat) then (gD a_3.all ((0 : Nat) +
 (IntKind.i64.wrap ((↑(setD a.N).nR : Int) + gD a.st a_3.k)).toNat)).now else (gD a_3.all ((0 : Nat) + (IntKind.i64.wrap ((↑(setD a.N).nR : Int) + gD a.st a_3.k)).toNat)).now) ∧ a.st.length = a.st.length ∧ (∀ (i : Nat), i
 < a.st.length → gD a.st i = gD a.st i) ∧ (↑a.st.length : Int) = (↑a.st.length : Int) ∧ (↑a_5.k : Int) = IntKind.i64.wrap ((↑a_3.k : Int) + (1 : Int)) ∧ Int.ofNat (0 : Nat) = Int.ofNat (0 : Nat) ∧ Int.ofNat (0 : Nat) =
 Int.ofNat (0 : Nat) ∧ (0 : Nat) = (0 : Nat) ∧ a_5.all.length = a_3.all.length ∧ (↑(setD a.N).out : Int) = (↑(setD a.N).out : Int) ∧ (↑(setD a.N).nR : Int) = (↑(setD a.N).nR : Int) ∧ a_5.all.length = a_3.all.length ∧ ∀ (i
 : Nat), i < a_5.all.length → ((gD a_5.all i).fr = bif decide (i = (0 : Nat) + (IntKind.i64.wrap ((↑(setD a.N).nR : Int) + gD a.st a_3.k)).toNat) then wr ((↑(setD a.N).out : Int) + (1 : Int)) else (gD a_3.all i).fr) ∧
 ((gD a_5.all i).to = bif decide (i = (0 : Nat) + (IntKind.i64.wrap ((↑(setD a.N).nR : Int) + gD a.st a_3.k)).toNat) then (gD a_3.all ((0 : Nat) + (IntKind.i64.wrap ((↑(setD a.N).nR : Int) + gD a.st a_3.k)).toNat)).to
 else (gD a_3.all i).to) ∧ ((gD a_5.all i).sp.lo = bif decide (i = (0 : Nat) + (IntKind.i64.wrap ((↑(setD a.N).nR : Int) + gD a.st a_3.k)).toNat) then (gD a_3.all ((0 : Nat) + (IntKind.i64.wrap ((↑(setD a.N).nR : Int) +
 gD a.st a_3.k)).toNat)).sp.lo else (gD a_3.all i).sp.lo) ∧ ((gD a_5.all i).sp.hi = bif decide (i = (0 : Nat) + (IntKind.i64.wrap ((↑(setD a.N).nR : Int) + gD a.st a_3.k)).toNat) then (gD a_3.all ((0 : Nat) +
 (IntKind.i64.wrap ((↑(setD a.N).nR : Int) + gD a.st a_3.k)).toNat)).sp.hi else (gD a_3.all i).sp.hi) ∧ (gD a_5.all i).now = bif decide (i = (0 : Nat) + (IntKind.i64.wrap ((↑(setD a.N).nR : Int) + gD a.st a_3.k)).toNat)
 then (gD a_3.all ((0 : Nat) + (IntKind.i64.wrap ((↑(setD a.N).nR : Int) + gD a.st a_3.k)).toNat)).now else (gD a_3.all i).now) ∧ (a_5.k ≤ a.st.length ∧ a_5.all.length = (setD a.N).all.length ∧ grpAll (setD a.N).out (setD
 a.N).nR (List.drop a_5.k a.st) a_5.all a_5.total = grpAll (setD a.N).out (setD a.N).nR a.st (setD a.N).all (0 : Int)) ∧ a.st.length - a_5.k < a.st.length - a_3.k else (((0 : Int) ≤ (0 : Int) ∧ (0 : Int) ≤ (↑(setD
 a.N).all.length : Int) ∧ (↑(setD a.N).all.length : Int) = (↑(setD a.N).all.length : Int) ∧ (↑(setD a.N).all.length : Int) ≤ (↑a_3.all.length : Int) ∧ a_3.all.length ≤ a_3.all.length) ∧ (True ∧ ((0 : Nat) < (setD
 a.N).all.length - (0 : Nat) → (5 : Nat) = (5 : Nat))) ∧ ((1 : Nat) ≤ (1 : Nat) ∧ ((0 : Nat) < (1 : Nat) → (5 : Nat) = (5 : Nat))) ∧ (true = true → (0 : Nat) < (1 : Nat)) ∧ (setD a.N).all.length - (0 : Nat) + (1 : Nat) ≤
 (9223372036854775807 : Nat) ∧ ((setD a.N).all.length - (0 : Nat) + (1 : Nat)) * (40 : Nat) ≤ (140737488355328 : Nat)) ∧ ((↑(setD a.N).all.length : Int) = (↑(setD a.N).all.length : Int) ∧ (0 : Nat) = (0 : Nat) ∧ (rng
 ((setD a.N).all.length - Int.toNat (0 : Int) + (1 : Nat)) fun (i : Nat) => dWay (catD ((setD a.N).all.length - Int.toNat (0 : Int)) (fun (i : Nat) => eWay (gD a_3.all (Int.toNat (0 : Int) + i))) (fun (i : Nat) => getEs
 [Sym.elemOf [DVal.v (Value.int IntKind.i64 (↑(setD a.N).out : Int)), DVal.v (Value.int IntKind.i64 (wr ((↑(setD a.N).out : Int) + (1 : Int)))), ofV (Value.int IntKind.i64 (-100000000 : Int)), ofV (Value.int IntKind.i64
 (100000000 : Int)), DVal.v (Value.int IntKind.i64 a_3.total)]] ((0 : Nat) + i)) i)).length = (setD a.N).all.length - Int.toNat (0 : Int) + (1 : Nat) ∧ (↑(setD a.N).out : Int) = (↑(setD a.N).out : Int) ∧ (↑(setD a.N).nR :
 Int) = (↑(setD a.N).nR : Int) ∧ (rng ((setD a.N).all.length - Int.toNat (0 : Int) + (1 : Nat)) fun (i : Nat) => dWay (catD ((setD a.N).all.length - Int.toNat (0 : Int)) (fun (i : Nat) => eWay (gD a_3.all (Int.toNat (0 :
 Int) + i))) (fun (i : Nat) => getEs [Sym.elemOf [DVal.v (Value.int IntKind.i64 (↑(setD a.N).out : Int)), DVal.v (Value.int IntKind.i64 (wr ((↑(setD a.N).out : Int) + (1 : Int)))), ofV (Value.int IntKind.i64 (-100000000 :
 Int)), ofV (Value.int IntKind.i64 (100000000 : Int)), DVal.v (Value.int IntKind.i64 a_3.total)]] ((0 : Nat) + i)) i)).length = (setD a.N).all.length - Int.toNat (0 : Int) + (1 : Nat) ∧ (∀ (i : Nat), i < (rng ((setD
 a.N).all.length - (0 : Nat) + (1 : Nat)) fun (i : Nat) => dWay (catD ((setD a.N).all.length - (0 : Nat)) (fun (i : Nat) => eWay (gD a_3.all ((0 : Nat) + i))) (fun (i : Nat) => getEs [Sym.elemOf [DVal.v (Value.int
 IntKind.i64 (↑(setD a.N).out : Int)), DVal.v (Value.int IntKind.i64 (wr ((↑(setD a.N).out : Int) + (1 : Int)))), ofV (Value.int IntKind.i64 (-100000000 : Int)), ofV (Value.int IntKind.i64 (100000000 : Int)), DVal.v
 (Value.int IntKind.i64 a_3.total)]] ((0 : Nat) + i)) i)).length → ((gD (rng ((setD a.N).all.length - Int.toNat (0 : Int) + (1 : Nat)) fun (i : Nat) => dWay (catD ((setD a.N).all.length - Int.toNat (0 : Int)) (fun (i :
 Nat) => eWay (gD a_3.all (Int.toNat (0 : Int) + i))) (fun (i : Nat) => getEs [Sym.elemOf [DVal.v (Value.int IntKind.i64 (↑(setD a.N).out : Int)), DVal.v (Value.int IntKind.i64 (wr ((↑(setD a.N).out : Int) + (1 : Int)))),
 ofV (Value.int IntKind.i64 (-100000000 : Int)), ofV (Value.int IntKind.i64 (100000000 : Int)), DVal.v (Value.int IntKind.i64 a_3.total)]] ((0 : Nat) + i)) i)) i).fr = bif decide (i < (setD a.N).all.length - Int.toNat (0
 : Int)) then (gD a_3.all (Int.toNat (0 : Int) + i)).fr else (↑(setD a.N).out : Int)) ∧ ((gD (rng ((setD a.N).all.length - Int.toNat (0 : Int) + (1 : Nat)) fun (i : Nat) => dWay (catD ((setD a.N).all.length - Int.toNat (0
 : Int)) (fun (i : Nat) => eWay (gD a_3.all (Int.toNat (0 : Int) + i))) (fun (i : Nat) => getEs [Sym.elemOf [DVal.v (Value.int IntKind.i64 (↑(setD a.N).out : Int)), DVal.v (Value.int IntKind.i64 (wr ((↑(setD a.N).out :
 Int) + (1 : Int)))), ofV (Value.int IntKind.i64 (-100000000 : Int)), ofV (Value.int IntKind.i64 (100000000 : Int)), DVal.v (Value.int IntKind.i64 a_3.total)]] ((0 : Nat) + i)) i)) i).to = bif decide (i < (setD
 a.N).all.length - Int.toNat (0 : Int)) then (gD a_3.all (Int.toNat (0 : Int) + i)).to else wr ((↑(setD a.N).out : Int) + (1 : Int))) ∧ ((gD (rng ((setD a.N).all.length - Int.toNat (0 : Int) + (1 : Nat)) fun (i : Nat) =>
 dWay (catD ((setD a.N).all.length - Int.toNat (0 : Int)) (fun (i : Nat) => eWay (gD a_3.all (Int.toNat (0 : Int) + i))) (fun (i : Nat) => getEs [Sym.elemOf [DVal.v (Value.int IntKind.i64 (↑(setD a.N).out : Int)), DVal.v
 (Value.int IntKind.i64 (wr ((↑(setD a.N).out : Int) + (1 : Int)))), ofV (Value.int IntKind.i64 (-100000000 : Int)), ofV (Value.int IntKind.i64 (100000000 : Int)), DVal.v (Value.int IntKind.i64 a_3.total)]] ((0 : Nat) +
 i)) i)) i).sp.lo = bif decide (i < (setD a.N).all.length - Int.toNat (0 : Int)) then (gD a_3.all (Int.toNat (0 : Int) + i)).sp.lo else (-100000000 : Int)) ∧ ((gD (rng ((setD a.N).all.length - Int.toNat (0 : Int) + (1 :
 Nat)) fun (i : Nat) => dWay (catD ((setD a.N).all.length - Int.toNat (0 : Int)) (fun (i : Nat) => eWay (gD a_3.all (Int.toNat (0 : Int) + i))) (fun (i : Nat) => getEs [Sym.elemOf [DVal.v (Value.int IntKind.i64 (↑(setD
 a.N).out : Int)), DVal.v (Value.int IntKind.i64 (wr ((↑(setD a.N).out : Int) + (1 : Int)))), ofV (Value.int IntKind.i64 (-100000000 : Int)), ofV (Value.int IntKind.i64 (100000000 : Int)), DVal.v (Value.int IntKind.i64
 a_3.total)]] ((0 : Nat) + i)) i)) i).sp.hi = bif decide (i < (setD a.N).all.length - Int.toNat (0 : Int)) then (gD a_3.all (Int.toNat (0 : Int) + i)).sp.hi else (100000000 : Int)) ∧ (gD (rng ((setD a.N).all.length -
 Int.toNat (0 : Int) + (1 : Nat)) fun (i : Nat) => dWay (catD ((setD a.N).all.length - Int.toNat (0 : Int)) (fun (i : Nat) => eWay (gD a_3.all (Int.toNat (0 : Int) + i))) (fun (i : Nat) => getEs [Sym.elemOf [DVal.v
 (Value.int IntKind.i64 (↑(setD a.N).out : Int)), DVal.v (Value.int IntKind.i64 (wr ((↑(setD a.N).out : Int) + (1 : Int)))), ofV (Value.int IntKind.i64 (-100000000 : Int)), ofV (Value.int IntKind.i64 (100000000 : Int)),
 DVal.v (Value.int IntKind.i64 a_3.total)]] ((0 : Nat) + i)) i)) i).now = bif decide (i < (setD a.N).all.length - Int.toNat (0 : Int)) then (gD a_3.all (Int.toNat (0 : Int) + i)).now else a_3.total) ∧ (0 : Nat) = (0 :
 Nat) ∧ (setD a.N).all.length - Int.toNat (0 : Int) + (1 : Nat) = (rng ((setD a.N).all.length - Int.toNat (0 : Int) + (1 : Nat)) fun (i : Nat) => dWay (catD ((setD a.N).all.length - Int.toNat (0 : Int)) (fun (i : Nat) =>
 eWay (gD a_3.all (Int.toNat (0 : Int) + i))) (fun (i : Nat) => getEs [Sym.elemOf [DVal.v (Value.int IntKind.i64 (↑(setD a.N).out : Int)), DVal.v (Value.int IntKind.i64 (wr ((↑(setD a.N).out : Int) + (1 : Int)))), ofV
 (Value.int IntKind.i64 (-100000000 : Int)), ofV (Value.int IntKind.i64 (100000000 : Int)), DVal.v (Value.int IntKind.i64 a_3.total)]] ((0 : Nat) + i)) i)).length ∧ (↑(setD a.N).out : Int) = (↑(setD a.N).out : Int) ∧
 (↑(setD a.N).nR : Int) = (↑(setD a.N).nR : Int) ∧ (setD a.N).all.length - Int.toNat (0 : Int) + (1 : Nat) = (rng ((setD a.N).all.length - Int.toNat (0 : Int) + (1 : Nat)) fun (i : Nat) => dWay (catD ((setD
 a.N).all.length - Int.toNat (0 : Int)) (fun (i : Nat) => eWay (gD a_3.all (Int.toNat (0 : Int) + i))) (fun (i : Nat) => getEs [Sym.elemOf [DVal.v (Value.int IntKind.i64 (↑(setD a.N).out : Int)), DVal.v (Value.int
 IntKind.i64 (wr ((↑(setD a.N).out : Int) + (1 : Int)))), ofV (Value.int IntKind.i64 (-100000000 : Int)), ofV (Value.int IntKind.i64 (100000000 : Int)), DVal.v (Value.int IntKind.i64 a_3.total)]] ((0 : Nat) + i))
 i)).length ∧ (∀ (i : Nat), i < (setD a.N).all.length - (0 : Nat) + (1 : Nat) → (bif decide (i < (setD a.N).all.length - Int.toNat (0 : Int)) then (gD a_3.all (Int.toNat (0 : Int) + i)).fr else (↑(setD a.N).out : Int)) =
 (gD (rng ((setD a.N).all.length - Int.toNat (0 : Int) + (1 : Nat)) fun (i : Nat) => dWay (catD ((setD a.N).all.length - Int.toNat (0 : Int)) (fun (i : Nat) => eWay (gD a_3.all (Int.toNat (0 : Int) + i))) (fun (i : Nat)
 => getEs [Sym.elemOf [DVal.v (Value.int IntKind.i64 (↑(setD a.N).out : Int)), DVal.v (Value.int IntKind.i64 (wr ((↑(setD a.N).out : Int) + (1 : Int)))), ofV (Value.int IntKind.i64 (-100000000 : Int)), ofV (Value.int
 IntKind.i64 (100000000 : Int)), DVal.v (Value.int IntKind.i64 a_3.total)]] ((0 : Nat) + i)) i)) i).fr ∧ (bif decide (i < (setD a.N).all.length - Int.toNat (0 : Int)) then (gD a_3.all (Int.toNat (0 : Int) + i)).to else wr
 ((↑(setD a.N).out : Int) + (1 : Int))) = (gD (rng ((setD a.N).all.length - Int.toNat (0 : Int) + (1 : Nat)) fun (i : Nat) => dWay (catD ((setD a.N).all.length - Int.toNat (0 : Int)) (fun (i : Nat) => eWay (gD a_3.all
 (Int.toNat (0 : Int) + i))) (fun (i : Nat) => getEs [Sym.elemOf [DVal.v (Value.int IntKind.i64 (↑(setD a.N).out : Int)), DVal.v (Value.int IntKind.i64 (wr ((↑(setD a.N).out : Int) + (1 : Int)))), ofV (Value.int
 IntKind.i64 (-100000000 : Int)), ofV (Value.int IntKind.i64 (100000000 : Int)), DVal.v (Value.int IntKind.i64 a_3.total)]] ((0 : Nat) + i)) i)) i).to ∧ (bif decide (i < (setD a.N).all.length - Int.toNat (0 : Int)) then
 (gD a_3.all (Int.toNat (0 : Int) + i)).sp.lo else (-100000000 : Int)) = (gD (rng ((setD a.N).all.length - Int.toNat (0 : Int) + (1 : Nat)) fun (i : Nat) => dWay (catD ((setD a.N).all.length - Int.toNat (0 : Int)) (fun (i
 : Nat) => eWay (gD a_3.all (Int.toNat (0 : Int) + i))) (fun (i : Nat) => getEs [Sym.elemOf [DVal.v (Value.int IntKind.i64 (↑(setD a.N).out : Int)), DVal.v (Value.int IntKind.i64 (wr ((↑(setD a.N).out : Int) + (1 :
 Int)))), ofV (Value.int IntKind.i64 (-100000000 : Int)), ofV (Value.int IntKind.i64 (100000000 : Int)), DVal.v (Value.int IntKind.i64 a_3.total)]] ((0 : Nat) + i)) i)) i).sp.lo ∧ (bif decide (i < (setD a.N).all.length -
 Int.toNat (0 : Int)) then (gD a_3.all (Int.toNat (0 : Int) + i)).sp.hi else (100000000 : Int)) = (gD (rng ((setD a.N).all.length - Int.toNat (0 : Int) + (1 : Nat)) fun (i : Nat) => dWay (catD ((setD a.N).all.length -
 Int.toNat (0 : Int)) (fun (i : Nat) => eWay (gD a_3.all (Int.toNat (0 : Int) + i))) (fun (i : Nat) => getEs [Sym.elemOf [DVal.v (Value.int IntKind.i64 (↑(setD a.N).out : Int)), DVal.v (Value.int IntKind.i64 (wr ((↑(setD
 a.N).out : Int) + (1 : Int)))), ofV (Value.int IntKind.i64 (-100000000 : Int)), ofV (Value.int IntKind.i64 (100000000 : Int)), DVal.v (Value.int IntKind.i64 a_3.total)]] ((0 : Nat) + i)) i)) i).sp.hi ∧ (bif decide (i <
 (setD a.N).all.length - Int.toNat (0 : Int)) then (gD a_3.all (Int.toNat (0 : Int) + i)).now else a_3.total) = (gD (rng ((setD a.N).all.length - Int.toNat (0 : Int) + (1 : Nat)) fun (i : Nat) => dWay (catD ((setD
 a.N).all.length - Int.toNat (0 : Int)) (fun (i : Nat) => eWay (gD a_3.all (Int.toNat (0 : Int) + i))) (fun (i : Nat) => getEs [Sym.elemOf [DVal.v (Value.int IntKind.i64 (↑(setD a.N).out : Int)), DVal.v (Value.int
 IntKind.i64 (wr ((↑(setD a.N).out : Int) + (1 : Int)))), ofV (Value.int IntKind.i64 (-100000000 : Int)), ofV (Value.int IntKind.i64 (100000000 : Int)), DVal.v (Value.int IntKind.i64 a_3.total)]] ((0 : Nat) + i)) i))
 i).now) ∧ (Desk.mk (rng ((setD a.N).all.length - Int.toNat (0 : Int) + (1 : Nat)) fun (i : Nat) => dWay (catD ((setD a.N).all.length - Int.toNat (0 : Int)) (fun (i : Nat) => eWay (gD a_3.all (Int.toNat (0 : Int) + i)))
 (fun (i : Nat) => getEs [Sym.elemOf [DVal.v (Value.int IntKind.i64 (↑(setD a.N).out : Int)), DVal.v (Value.int IntKind.i64 (wr ((↑(setD a.N).out : Int) + (1 : Int)))), ofV (Value.int IntKind.i64 (-100000000 : Int)), ofV
 (Value.int IntKind.i64 (100000000 : Int)), DVal.v (Value.int IntKind.i64 a_3.total)]] ((0 : Nat) + i)) i)) (setD a.N).out (setD a.N).nR).ok ∧ ((0 : Int) ≤ (↑(setD a.N).all.length : Int) ∧ (↑(setD a.N).all.length : Int) <
 (↑(rng ((setD a.N).all.length - (0 : Nat) + (1 : Nat)) fun (i : Nat) => dWay (catD ((setD a.N).all.length - (0 : Nat)) (fun (i : Nat) => eWay (gD a_3.all ((0 : Nat) + i))) (fun (i : Nat) => getEs [Sym.elemOf [DVal.v
 (Value.int IntKind.i64 (↑(setD a.N).out : Int)), DVal.v (Value.int IntKind.i64 (wr ((↑(setD a.N).out : Int) + (1 : Int)))), ofV (Value.int IntKind.i64 (-100000000 : Int)), ofV (Value.int IntKind.i64 (100000000 : Int)),
 DVal.v (Value.int IntKind.i64 a_3.total)]] ((0 : Nat) + i)) i)).length : Int)) ∧ (spanV (Desk.mk (rng ((setD a.N).all.length - Int.toNat (0 : Int) + (1 : Nat)) fun (i : Nat) => dWay (catD ((setD a.N).all.length -
 Int.toNat (0 : Int)) (fun (i : Nat) => eWay (gD a_3.all (Int.toNat (0 : Int) + i))) (fun (i : Nat) => getEs [Sym.elemOf [DVal.v (Value.int IntKind.i64 (↑(setD a.N).out : Int)), DVal.v (Value.int IntKind.i64 (wr ((↑(setD
 a.N).out : Int) + (1 : Int)))), ofV (Value.int IntKind.i64 (-100000000 : Int)), ofV (Value.int IntKind.i64 (100000000 : Int)), DVal.v (Value.int IntKind.i64 a_3.total)]] ((0 : Nat) + i)) i)) (setD a.N).out (setD a.N).nR)
 (↑(setD a.N).all.length : Int)).isSome = true) ∧ (grpS a).lo = ((spanV (Desk.mk (rng ((setD a.N).all.length - Int.toNat (0 : Int) + (1 : Nat)) fun (i : Nat) => dWay (catD ((setD a.N).all.length - Int.toNat (0 : Int))
 (fun (i : Nat) => eWay (gD a_3.all (Int.toNat (0 : Int) + i))) (fun (i : Nat) => getEs [Sym.elemOf [DVal.v (Value.int IntKind.i64 (↑(setD a.N).out : Int)), DVal.v (Value.int IntKind.i64 (wr ((↑(setD a.N).out : Int) + (1
 : Int)))), ofV (Value.int IntKind.i64 (-100000000 : Int)), ofV (Value.int IntKind.i64 (100000000 : Int)), DVal.v (Value.int IntKind.i64 a_3.total)]] ((0 : Nat) + i)) i)) (setD a.N).out (setD a.N).nR) (↑(setD
 a.N).all.length : Int)).getD default).lo ∧ (grpS a).hi = ((spanV (Desk.mk (rng ((setD a.N).all.length - Int.toNat (0 : Int) + (1 : Nat)) fun (i : Nat) => dWay (catD ((setD a.N).all.length - Int.toNat (0 : Int)) (fun (i :
 Nat) => eWay (gD a_3.all (Int.toNat (0 : Int) + i))) (fun (i : Nat) => getEs [Sym.elemOf [DVal.v (Value.int IntKind.i64 (↑(setD a.N).out : Int)), DVal.v (Value.int IntKind.i64 (wr ((↑(setD a.N).out : Int) + (1 : Int)))),
 ofV (Value.int IntKind.i64 (-100000000 : Int)), ofV (Value.int IntKind.i64 (100000000 : Int)), DVal.v (Value.int IntKind.i64 a_3.total)]] ((0 : Nat) + i)) i)) (setD a.N).out (setD a.N).nR) (↑(setD a.N).all.length :
 Int)).getD default).hi ∧ Int.ofNat (0 : Nat) = Int.ofNat (0 : Nat)) := by kernel_rfl
theorem cat_ways (all : List Way) (n : Nat) (hn : all.length = n) (o g lo hi t : Int) : rng (n - Int.toNat 0 + 1) (fun i => dWay (catD (n - Int.toNat 0) (fun i => eWay (gD all (Int.toNat 0 + i))) (fun i => getEs [Sym.elemOf [DVal.v (Value.int IntKind.i64 o), DVal.v (Value.int IntKind.i64 g), ofV (Value.int IntKind.i64 lo), ofV (Value.int IntKind.i64 hi), DVal.v (Value.int IntKind.i64 t)]] i) i)) = all ++ [(⟨o, g, ⟨lo, hi⟩, t⟩ : Way)] := by
  subst hn
  apply gD_ext
  · simp
  · intro i hi
    simp only [rng_length] at hi
    rw [rng_get _ _ _ hi, gD_append]
    simp only [catD, mergeD_eq, Int.toNat_zero, Nat.zero_add, Nat.sub_zero]
    by_cases h : i < all.length
    · rw [if_pos h]; simp [h]
    · have : i = all.length := by simp at hi; omega
      subst this
      rw [if_neg h]; simp only [h, decide_false, cond_false, Nat.sub_self]; rfl
theorem grpAll_len (out nR : Nat) : ∀ (l : List Int) (all : List Way) (t : Int), (grpAll out nR l all t).1.length = all.length
  | [], _, _ => rfl
  | s :: l, all, t => by simp only [grpAll]; rw [grpAll_len]; simp
theorem grpAll_ends (out nR : Nat) (ho : out ≤ 8) : ∀ (l : List Int) (all : List Way) (t : Int), (∀ i, i < all.length → (0 ≤ (gD all i).fr ∧ (gD all i).fr < out + 2) ∧ 0 ≤ (gD all i).to ∧ (gD all i).to < out + 2) →
    ∀ i, i < all.length → (0 ≤ (gD (grpAll out nR l all t).1 i).fr ∧ (gD (grpAll out nR l all t).1 i).fr < out + 2) ∧ 0 ≤ (gD (grpAll out nR l all t).1 i).to ∧ (gD (grpAll out nR l all t).1 i).to < out + 2
  | [], _, _, h, i, hi => h i hi
  | s :: l, all, t, h, i, hi => by
    simp only [grpAll]
    refine grpAll_ends out nR ho l _ _ (fun j hj => ?_) i (by simpa using hi)
    have hj : j < all.length := by simpa using hj
    by_cases hb : (wr (nR + s)).toNat < all.length
    · rw [gD_modify hb]
      split
      · have e : wr ((out : Int) + 1) = out + 1 := wr_id (by omega) (by omega)
        obtain ⟨_, h2⟩ := h _ hb
        exact ⟨⟨by show 0 ≤ wr _; rw [e]; omega, by show wr _ < _; rw [e]; omega⟩, h2⟩
      · exact h j hj
    · have : all.modify (wr (nR + s)).toNat (fun w => { w with fr := wr (out + 1) }) = all := by
        apply List.ext_getElem?; intro q; rw [List.getElem?_modify]
        by_cases hq : (wr (nR + s)).toNat = q
        · subst hq; rw [List.getElem?_eq_none (by omega)]; rfl
        · simp [hq]
      rw [this]; exact h j hj
theorem groupD_ok {d : Desk} (h : d.ok) (hl : d.all.length ≤ 22) (st : List Int) : (groupD d st).ok := by
  have ho := h.out
  have hX : (groupD d st).all = (grpAll d.out d.nR st d.all 0).1 ++ [(⟨d.out, wr (d.out + 1), ⟨-100000000, 100000000⟩, (grpAll d.out d.nR st d.all 0).2⟩ : Way)] := rfl
  have hO : (groupD d st).out = d.out := rfl
  have hR : (groupD d st).nR = d.nR := rfl
  have hL : (groupD d st).all.length = d.all.length + 1 := by rw [hX, List.length_append, grpAll_len]; rfl
  refine ⟨by rw [hO]; exact h.out, by rw [hL]; omega, by rw [hL, hO, hR]; have := h.cut; omega, fun i hi => ?_⟩
  rw [hL] at hi
  rw [hX, hO, gD_append, grpAll_len]
  split
  · rename_i hlt; exact grpAll_ends d.out d.nR ho st d.all 0 h.ends i hlt
  · have : i = d.all.length := by omega
    subst this
    have e : wr ((d.out : Int) + 1) = d.out + 1 := wr_id (by omega) (by omega)
    rw [Nat.sub_self, e]
    show (0 ≤ (d.out : Int) ∧ (d.out : Int) < d.out + 2) ∧ 0 ≤ (d.out : Int) + 1 ∧ (d.out : Int) + 1 < d.out + 2
    omega
theorem grpBad_in {n : Nat} (hn : 1 ≤ n ∧ n ≤ 8) : ∀ {l : List Int} {last : Int}, -1 ≤ last → last ≤ 100 → grpBad n last l = false → ∀ i, i < l.length → 0 ≤ gD l i ∧ gD l i < n
  | [], _, _, _, _, i, hi => by simp at hi
  | s :: l, last, h0, h1, h, i, hi => by
    simp only [grpBad, Bool.or_eq_false_iff, Bool.not_eq_false'] at h
    obtain ⟨h2, h3⟩ := h
    have h2 := inM_iff.1 h2
    rw [wr_id (n := last + 1) (by omega) (by omega), wr_id (n := (n : Int) - 1) (by omega) (by omega)] at h2
    cases i with
    | zero => show 0 ≤ s ∧ s < n; omega
    | succ i => exact grpBad_in hn (by omega) (by omega) h3 i (by simpa using hi)
theorem p35 (a : NGr) (h1 : checkL a.N = 0) (h2 : (settledV a.N).isSome = true) (h3 : ¬ 0 < setC a.N) (h4 : grpBad a.N.g.length (-1) a.st = false) (h5 : 0 < a.st.length ∧ a.st.length ≤ 1000000) (h6 : (spanV (groupD (setD a.N) a.st) (setD a.N).all.length).isSome = true) : V35 a := by
  obtain ⟨l1, l2, l3⟩ := set_len h2
  have hg := good_of h1
  have g1 := hg.g1
  have g8 := hg.g8
  have r14 := hg.r14
  have hok := setD_ok h1 h2
  have hgok := groupD_ok hok (by omega) a.st
  have hin := grpBad_in ⟨g1, g8⟩ (by omega) (by omega) h4
  rw [vc35]; simp only [condP, eq_self, implies_true, and_self, true_and, and_true, true_implies, forall_const, decide_eq_true_eq, decide_eq_false_iff_not, Int.toNat_natCast, dSpan_eSpan, dReach_eReach, dWay_eWay, dStep_eStep, dFar_eFar, dInt_eInt, Nat.zero_add, Int.zero_sub, Nat.le_eq, Nat.succ_eq_add_one, Nat.add_one_le_iff, Bool.not_eq_true', Bool.not_eq_false', rng_length, dSpan_mk, dReach_mk, dWay_mk, dStep_mk, dFar_mk, rng_getD, DL.d6, DL.d7, DL.d8, net_check, h1]
  refine ⟨⟨⟨-1, 0⟩, ⟨rfl, rfl⟩, Nat.zero_le _, h4⟩, fun s ⟨q1, q2⟩ => ⟨fun hlt => ⟨⟨by omega, hlt⟩, fun hc => ?_, fun hc => ?_⟩, fun hge => ⟨fun hc => ?_, fun hc => ⟨⟨h2, h3⟩, ⟨by omega, by omega⟩, ⟨⟨(setD a.N).all, 0, 0⟩, ⟨rfl, rfl, rfl, rfl, fun _ _ => ⟨rfl, rfl, rfl, rfl, rfl⟩⟩, Nat.zero_le _, rfl, rfl⟩, fun s ⟨q3, q4, q5⟩ => ⟨fun hlt => ?_, fun hge => ?_⟩⟩⟩⟩⟩
  · rw [drop_gD (by omega)] at q2
    simp only [grpBad, Bool.or_eq_false_iff, Bool.not_eq_false'] at q2
    have hc : (!inM (gD a.st s.k) (wr (s.last + 1)) (wr ((a.N.g.length : Int) - 1))) = true := hc
    rw [q2.1] at hc; cases hc
  · rw [drop_gD (by omega)] at q2
    simp only [grpBad, Bool.or_eq_false_iff, Bool.not_eq_false'] at q2
    exact ⟨⟨gD a.st s.k, s.k + 1⟩, ⟨rfl, (wsucc (by omega)).symm⟩, ⟨by show s.k + 1 ≤ _; omega, q2.2⟩, by show _ - (s.k + 1) < _; omega⟩
  · have hc : ((a.st.length : Int) == 0) = true := hc
    have : (a.st.length : Int) = 0 := by simpa using hc
    omega
  · have hk : s.k < a.st.length := by omega
    obtain ⟨i1, i2⟩ := hin s.k hk
    have e : wr (((setD a.N).nR : Int) + gD a.st s.k) = (setD a.N).nR + gD a.st s.k := wr_id (by omega) (by omega)
    have e' : IntKind.i64.wrap (((setD a.N).nR : Int) + gD a.st s.k) = (setD a.N).nR + gD a.st s.k := e
    rw [drop_gD hk] at q5
    simp only [grpAll, e] at q5
    simp only [e']
    have hb : ((setD a.N).nR + gD a.st s.k).toNat < s.all.length := by omega
    refine ⟨⟨by omega, hlt⟩, ⟨by omega, by omega⟩, hb, hb, ⟨s.all.modify ((setD a.N).nR + gD a.st s.k).toNat (fun w => { w with fr := wr ((setD a.N).out + 1) }), s.k + 1, wr (s.total + (gD s.all ((setD a.N).nR + gD a.st s.k).toNat).now)⟩, ⟨?_, (wsucc (by omega)).symm, ?_, ?_, fun i hi => ?_⟩, ⟨by show s.k + 1 ≤ _; omega, ?_, q5⟩, by show _ - (s.k + 1) < _; omega⟩
    · simp
    · simp
    · simp
    · simp only
      rw [gD_modify hb]
      by_cases he : i = ((setD a.N).nR + gD a.st s.k).toNat
      · simp [he]
      · simp [he]
    · simpa using q4
  · have hk : s.k = a.st.length := by omega
    rw [hk, List.drop_eq_nil_of_le (Nat.le_refl _)] at q5
    have q5 : (s.all, s.total) = grpAll (setD a.N).out (setD a.N).nR a.st (setD a.N).all 0 := q5
    have hgd : Desk.mk (s.all ++ [(⟨(setD a.N).out, wr ((setD a.N).out + 1), ⟨-100000000, 100000000⟩, s.total⟩ : Way)]) (setD a.N).out (setD a.N).nR = groupD (setD a.N) a.st := by
      unfold groupD; rw [← q5]
    have hgi : ∀ i, i < (setD a.N).all.length - 0 + 1 → gD (s.all ++ [(⟨(setD a.N).out, wr ((setD a.N).out + 1), ⟨-100000000, 100000000⟩, s.total⟩ : Way)]) i = if i < (setD a.N).all.length then gD s.all i else ⟨(setD a.N).out, wr ((setD a.N).out + 1), ⟨-100000000, 100000000⟩, s.total⟩ := fun i hi => by
      rw [gD_append, q4]
      split
      · rfl
      · have : i = (setD a.N).all.length := by omega
        subst this; rw [Nat.sub_self]; rfl
    rw [cat_ways s.all _ q4]
    have hgi' := hgi
    simp only [hgd] at hgi' ⊢
    refine ⟨⟨⟨by omega, by omega, by omega, Nat.le_refl _⟩, by omega, by omega, by omega, by omega⟩, ⟨fun i hi => ?_, fun i hi => ?_, hgok, ⟨by omega, by omega⟩, h6⟩, ?_⟩
    · rw [hgi i hi]
      by_cases h : i < (setD a.N).all.length
      · simp [h]
      · simp [h]
    · rw [hgi i hi]
      by_cases h : i < (setD a.N).all.length
      · simp [h]
      · simp [h]
    · exact ⟨rfl, rfl⟩
def d35 : List AVal → Heap → Option (NGr × List (Nat × Nat) × List Nat)
  | [.d x, .d (.list _ n g _)], _ => match decNet x with
    | some N => some (⟨N, rng n fun i => dInt (g i)⟩, [], [])
    | none => none
  | [.d x, .own id _ _ n], H => match decNet x, H id with
    | some N, .live (.row _ _ g) => some (⟨N, rng n fun i => dInt (g i)⟩, [], [id])
    | _, _ => none
  | _, _ => none
theorem ok35 : SpecOk Try.prog 35 (C35.spec d35) := okC C35 A35 [] [] Try.func35 (fun _ => by kernel_rfl) (fun _ => gok_cons ok44 (gok_cons ok62 (gok_cons ok73 (gok_cons ok75 (gok_cons ok74 gok_nil))))) (fun a h => p35 a h.1 h.2.1 h.2.2.1 h.2.2.2.1 h.2.2.2.2.1 h.2.2.2.2.2) (fun _ => noI rfl rfl) _
end Go.Bal
