/- Package balance: moved. -/
import Derived.Test.YtonddbmhljelgaaBalE
import Derived.Test.YtonddbmhljelgaaBalT2
set_option linter.unusedVariables false
set_option linter.unusedSimpArgs false
namespace Go.Bal
open Go Go.Sym Go.Proofs
structure DM where
  d : Desk
  fr : Int
  to : Int
  m : Map
  st : Int → Int
  most : Int
structure One where
  one : Nat
  deriving Inhabited
structure TS where
  l : List Step
  v : Int
  deriving Inhabited
structure KI where
  k : Nat
  q : Int
  deriving Inhabited
structure KW where
  k : Nat
  all : List Way
  deriving Inhabited
def nilL : DVal := .list 0 0 (fun _ => default) true
def eSteps (l : List Step) : DVal := lst 2 l.length fun i => eStep (gD l i)
def DM.tr (a : DM) : List Step := (trailM a.d a.m a.fr fuel a.to).getD []
def DM.q (a : DM) : Int := leastRoom a.d a.most a.tr
def movK (a : DM) (q : Int) : List (Nat × HCell) := [(300, .live (.box [.bptr 100 0])), (301, .live (.box [.int q]))]
def movL (a : DM) : List (Nat × AObj) := deskL a.d ++ [(104, mapO a.m a.st)]
def A97 (a : DM) : Ann := { ann 68 [(87, C87.spec dDS), (85, C85.spec dDS), (108, C108.spec d108)] with E := [100, 101, 104], mt := fun id => id == 5, loops := fun id => if id = 3 then some [{ α := One, dflt := default, T := fun _ => ⟨[(1, .int a.fr), (3, .mref 104), (5, .bptr 300 0), (9, .bptr 301 0), (11, .d nilL), (12, .int a.to)], lives (movL a) ++ movK a a.most⟩, inv := fun _ => True, meas := fun _ => a.tr.length, first := [(300, 1000), (301, 1016)] }, { α := TS, dflt := default, T := fun s => ⟨[(1, .int a.fr), (3, .mref 104), (5, .bptr 300 0), (9, .bptr 301 0), (11, .own 210 2 0 s.l.length), (12, .int s.v)], lives (movL a) ++ movK a a.most ++ [(210, .live (.row 2 s.l.length fun i => eStep (gD s.l i)))]⟩, inv := fun s => s.l.length ≤ a.tr.length ∧ a.tr = s.l ++ a.tr.drop s.l.length ∧ ∃ k, k + s.l.length = fuel ∧ trailM a.d a.m a.fr k s.v = some (a.tr.drop s.l.length), meas := fun s => a.tr.length - s.l.length, again := [(210, 6048)] }] else if id = 9 then some [{ α := KI, dflt := default, T := fun s => ⟨[(5, .bptr 300 0), (9, .bptr 301 0), (11, .d (eSteps a.tr)), (40, .d (eSteps a.tr)), (41, .int a.tr.length), (42, .int s.k)], lives (movL a) ++ movK a s.q⟩, inv := fun s => s.k ≤ a.tr.length ∧ leastRoom a.d s.q (a.tr.drop s.k) = a.q, meas := fun s => a.tr.length - s.k, ffz := [210] }] else if id = 16 then some [{ α := KW, dflt := default, T := fun s => ⟨[(9, .bptr 301 0), (18, .fn (.func 108) [] [.bptr 300 0, .bptr 301 0]), (57, .d (eSteps a.tr)), (58, .int a.tr.length), (59, .int s.k)], lives (deskL (Desk.mk (s.all) a.d.out a.d.nR) ++ [(104, mapO a.m a.st)]) ++ movK a a.q⟩, inv := fun s => s.k ≤ a.tr.length ∧ s.all.length = a.d.all.length ∧ pushAll a.q s.all (a.tr.drop s.k) = pushAll a.q a.d.all a.tr, meas := fun s => a.tr.length - s.k }] else none }
def C97 : Ctr := { ro := [100, 104], α := DM, xs := fun a => [.bptr 100 0, .int a.fr, .int a.to, .mref 104, .int a.most], L := fun a => deskL a.d ++ [(104, mapO a.m a.st)], val := fun a => .int a.q, keep := fun a => deskK (Desk.mk (pushAll a.q a.d.all a.tr) a.d.out a.d.nR) ++ [(104, .live (mapO a.m a.st))], pre := fun a => [a.d.ok, (trailM a.d a.m a.fr fuel a.to).isSome = true, ∀ s ∈ a.tr, 0 ≤ s.way ∧ s.way < a.d.all.length, a.tr.length ≤ 1000] }
def V97 (a : DM) : Prop := fnVC Try.prog (A97 a) Try.f97 (bodyOf Try.f97) (C97.xs a) (heapOf (C97.L a)) (C97.val a) (C97.keep a) [] []
abbrev z97_0 : Prop := 0 = 0
abbrev z97_1 (a : DM) : Prop := a.d.all.length = a.d.all.length
abbrev z97_2 (a : DM) : Prop := (↑a.d.out : Int) = (↑a.d.out : Int)
abbrev z97_3 (a : DM) : Prop := (↑a.d.nR : Int) = (↑a.d.nR : Int)
abbrev z97_4 (a : DM) : Prop := ∀ (i : Nat), i < a.d.all.length → (gD a.d.all i).fr = (gD a.d.all i).fr ∧ (gD a.d.all i).to = (gD a.d.all i).to ∧ (gD a.d.all i).sp.lo = (gD a.d.all i).sp.lo ∧ (gD a.d.all i).sp.hi = (gD
 a.d.all i).sp.hi ∧ (gD a.d.all i).now = (gD a.d.all i).now
abbrev z97_5 (a : DM) : Prop := ∀ (n : Int), (a.m.at n).isSome = (a.m.at n).isSome
abbrev z97_6 (a : DM) : Prop := ∀ (n : Int), a.st n = a.st n
abbrev z97_7 (a : DM) : Prop := ∀ (n : Int), (a.m.far n).cost = (a.m.far n).cost ∧ (a.m.far n).many = (a.m.far n).many ∧ (a.m.far n).by'.way = (a.m.far n).by'.way ∧ (a.m.far n).by'.back = (a.m.far n).by'.back
abbrev z97_8 : Prop := Value.agg #[Value.int IntKind.i64 0, Value.int IntKind.i64 0, Value.int IntKind.i64 0, Value.bool false] = zFar
abbrev z97_9 : Prop := 0 < 1
abbrev z97_10 : Prop := 2 = 2
abbrev z97_11 : Prop := 1 ≤ 1 ∧ (z97_9 → z97_10)
abbrev z97_12 (a : DM) : List Way := rng a.d.all.length fun (i : Nat) => gD a.d.all i
abbrev z97_13 (a : DM) : Nat := (z97_12 a).length
abbrev z97_14 (a : DM) : Prop := z97_13 a = a.d.all.length
abbrev z97_15 (a : DM) (i : Nat) : Way := gD (z97_12 a) i
abbrev z97_16 (a : DM) (i : Nat) : Int := (z97_15 a i).fr
abbrev z97_17 (a : DM) (i : Nat) : Int := (z97_15 a i).to
abbrev z97_18 (a : DM) (i : Nat) : Span := (z97_15 a i).sp
abbrev z97_19 (a : DM) (i : Nat) : Int := (z97_18 a i).lo
abbrev z97_20 (a : DM) (i : Nat) : Int := (z97_18 a i).hi
abbrev z97_21 (a : DM) (i : Nat) : Int := (z97_15 a i).now
abbrev z97_22 (a : DM) : Prop := ∀ (i : Nat), i < z97_13 a → z97_16 a i = (gD a.d.all i).fr ∧ z97_17 a i = (gD a.d.all i).to ∧ z97_19 a i = (gD a.d.all i).sp.lo ∧ z97_20 a i = (gD a.d.all i).sp.hi ∧ z97_21 a i = (gD
 a.d.all i).now
abbrev z97_23 (a : DM) : Prop := a.d.all.length = z97_13 a
abbrev z97_24 (a : DM) : Prop := ∀ (i : Nat), i < a.d.all.length → (gD a.d.all i).fr = z97_16 a i ∧ (gD a.d.all i).to = z97_17 a i ∧ (gD a.d.all i).sp.lo = z97_19 a i ∧ (gD a.d.all i).sp.hi = z97_20 a i ∧ (gD a.d.all
 i).now = z97_21 a i
abbrev z97_25 (a : TS) : Prop := a.l.length = 1
abbrev z97_26 (a : DM) : Desk := Desk.mk (z97_12 a) a.d.out a.d.nR
abbrev z97_27 (a : TS) (a1 : DM) : Prop := a.l.length ≤ a1.tr.length ∧ a1.tr = a.l ++ List.drop a.l.length a1.tr ∧ ∃ (k : Nat), k + a.l.length = 1000000000000000000 ∧ trailM a1.d a1.m a1.fr k a.v = some (List.drop
 a.l.length a1.tr)
abbrev z97_28 (a : DM) (a1 : TS) : Nat := a.tr.length - a1.l.length
abbrev z97_29 (a : DM) : Prop := a.tr.length = 0
abbrev z97_30 (a : KI) (a1 : DM) : Prop := (↑a.k : Int) = 0 ∧ z97_0 ∧ z97_1 a1 ∧ z97_2 a1 ∧ z97_3 a1 ∧ z97_1 a1 ∧ z97_4 a1 ∧ zFar = zFar ∧ z97_5 a1 ∧ z97_6 a1 ∧ z97_7 a1 ∧ a.q = a1.most
abbrev z97_31 (a : KI) (a1 : DM) : Prop := a.k ≤ a1.tr.length ∧ leastRoom a1.d a.q (List.drop a.k a1.tr) = a1.q
abbrev z97_32 (a : KI) (a1 : DM) : Prop := (↑a.k : Int) < (↑a1.tr.length : Int)
abbrev z97_33 (a : DM) : Prop := a.tr.length = a.tr.length
abbrev z97_34 (a : DM) : Prop := ∀ (i : Nat), i < a.tr.length → (gD a.tr i).way = (gD a.tr i).way ∧ (gD a.tr i).back = (gD a.tr i).back
abbrev z97_35 (a : DM) : Prop := (↑a.tr.length : Int) = (↑a.tr.length : Int)
abbrev z97_36 (a : DM) (a1 : KI) : Nat := a.tr.length - a1.k
abbrev z97_37 (a : KW) (a1 : DM) : Prop := a.all.length = a1.d.all.length
abbrev z97_38 (a : KW) (a1 : DM) : Prop := a.k ≤ a1.tr.length ∧ z97_37 a a1 ∧ pushAll a1.q a.all (List.drop a.k a1.tr) = pushAll a1.q a1.d.all a1.tr
abbrev z97_39 (a : KW) (a1 : DM) : Prop := (↑a.k : Int) < (↑a1.tr.length : Int)
abbrev z97_40 (a : KW) : List Way := rng a.all.length fun (i : Nat) => gD a.all i
abbrev z97_41 (a : KW) : Nat := (z97_40 a).length
abbrev z97_42 (a : KW) : Prop := z97_41 a = a.all.length
abbrev z97_43 (a : KW) (i : Nat) : Way := gD (z97_40 a) i
abbrev z97_44 (a : KW) (i : Nat) : Span := (z97_43 a i).sp
abbrev z97_45 (a : DM) (a1 : KW) : List Way := pushW a.q (z97_40 a1) (gD a.tr a1.k)
abbrev z97_46 (a : DM) (a1 : KW) : Nat := (z97_45 a a1).length
abbrev z97_47 (a : DM) (a1 : KW) (i : Nat) : Way := gD (z97_45 a a1) i
abbrev z97_48 (a : DM) (a1 : KW) (i : Nat) : Span := (z97_47 a a1 i).sp
abbrev z97_49 (a : DM) (a1 : KW) : Nat := a.tr.length - a1.k
abbrev z97_50 (a : DM) : Nat := (pushAll a.q a.d.all a.tr).length
abbrev z97_51 (a : DM) (a1 : KW) : Prop := z97_50 a = a1.all.length
abbrev z97_52 (a : DM) (i : Nat) : Way := gD (pushAll a.q a.d.all a.tr) i
abbrev z97_53 (a : DM) (i : Nat) : Span := (z97_52 a i).sp
abbrev z97_54 (a : DM) : Prop := ∀ (a_1 : KI), z97_31 a_1 a → bif decide (z97_32 a_1 a) then (0 ≤ (↑a_1.k : Int) ∧ z97_32 a_1 a) ∧ ((gD a.tr a_1.k).way = (gD a.tr a_1.k).way ∧ (gD a.tr a_1.k).back = (gD a.tr a_1.k).back
 ∧ z97_0 ∧ z97_14 a ∧ z97_2 a ∧ z97_3 a ∧ z97_14 a ∧ z97_22 a ∧ z97_0 ∧ z97_23 a ∧ z97_2 a ∧ z97_3 a ∧ z97_23 a ∧ z97_24 a ∧ 0 ≤ (gD a.tr a_1.k).way ∧ (gD a.tr a_1.k).way < (↑(z97_13 a) : Int)) ∧ ∃ (a_3 : KI), (z97_33 a ∧
 z97_34 a ∧ z97_33 a ∧ z97_34 a ∧ z97_35 a ∧ (↑a_3.k : Int) = IntKind.i64.wrap ((↑a_1.k : Int) + 1) ∧ z97_0 ∧ z97_1 a ∧ z97_2 a ∧ z97_3 a ∧ z97_1 a ∧ z97_4 a ∧ zFar = zFar ∧ z97_5 a ∧ z97_6 a ∧ z97_7 a ∧ a_3.q = minI
 a_1.q (roomM (getW (z97_12 a) (gD a.tr a_1.k).way) (gD a.tr a_1.k).back).snd) ∧ z97_31 a_3 a ∧ z97_36 a a_3 < z97_36 a a_1 else (∃ (a_3 : KW), (z97_33 a ∧ z97_34 a ∧ z97_35 a ∧ (↑a_3.k : Int) = 0 ∧ z97_0 ∧ z97_37 a_3 a ∧
 z97_2 a ∧ z97_3 a ∧ z97_37 a_3 a ∧ (∀ (i : Nat), i < a_3.all.length → (gD a_3.all i).fr = (gD a.d.all i).fr ∧ (gD a_3.all i).to = (gD a.d.all i).to ∧ (gD a_3.all i).sp.lo = (gD a.d.all i).sp.lo ∧ (gD a_3.all i).sp.hi =
 (gD a.d.all i).sp.hi ∧ (gD a_3.all i).now = (gD a.d.all i).now) ∧ zFar = zFar ∧ z97_5 a ∧ z97_6 a ∧ z97_7 a ∧ a.q = a_1.q) ∧ z97_38 a_3 a) ∧ ∀ (a_3 : KW), z97_38 a_3 a → bif decide (z97_39 a_3 a) then (0 ≤ (↑a_3.k : Int)
 ∧ z97_39 a_3 a) ∧ ((gD a.tr a_3.k).way = (gD a.tr a_3.k).way ∧ (gD a.tr a_3.k).back = (gD a.tr a_3.k).back ∧ z97_0 ∧ z97_42 a_3 ∧ z97_2 a ∧ z97_3 a ∧ z97_42 a_3 ∧ (∀ (i : Nat), i < z97_41 a_3 → (z97_43 a_3 i).fr = (gD
 a_3.all i).fr ∧ (z97_43 a_3 i).to = (gD a_3.all i).to ∧ (z97_44 a_3 i).lo = (gD a_3.all i).sp.lo ∧ (z97_44 a_3 i).hi = (gD a_3.all i).sp.hi ∧ (z97_43 a_3 i).now = (gD a_3.all i).now) ∧ a.q = a.q ∧ z97_0 ∧ a_3.all.length
 = z97_46 a a_3 ∧ z97_2 a ∧ z97_3 a ∧ a.q = a.q ∧ 0 ≤ (gD a.tr a_3.k).way ∧ (gD a.tr a_3.k).way < (↑(z97_41 a_3) : Int)) ∧ ∃ (a_5 : KW), (z97_33 a ∧ z97_34 a ∧ z97_35 a ∧ (↑a_5.k : Int) = IntKind.i64.wrap ((↑a_3.k : Int)
 + 1) ∧ z97_0 ∧ a_5.all.length = a_3.all.length ∧ z97_2 a ∧ z97_3 a ∧ a_5.all.length = z97_46 a a_3 ∧ (∀ (i : Nat), i < a_5.all.length → (gD a_5.all i).fr = (z97_47 a a_3 i).fr ∧ (gD a_5.all i).to = (z97_47 a a_3 i).to ∧
 (gD a_5.all i).sp.lo = (z97_48 a a_3 i).lo ∧ (gD a_5.all i).sp.hi = (z97_48 a a_3 i).hi ∧ (gD a_5.all i).now = (z97_47 a a_3 i).now) ∧ zFar = zFar ∧ z97_5 a ∧ z97_6 a ∧ z97_7 a ∧ a.q = a.q) ∧ z97_38 a_5 a ∧ z97_49 a a_5
 < z97_49 a a_3 else a.q = a.q ∧ z97_0 ∧ z97_51 a a_3 ∧ z97_2 a ∧ z97_3 a ∧ z97_51 a a_3 ∧ (∀ (i : Nat), i < z97_50 a → (z97_52 a i).fr = (gD a_3.all i).fr ∧ (z97_52 a i).to = (gD a_3.all i).to ∧ (z97_53 a i).lo = (gD
 a_3.all i).sp.lo ∧ (z97_53 a i).hi = (gD a_3.all i).sp.hi ∧ (z97_52 a i).now = (gD a_3.all i).now) ∧ zFar = zFar ∧ z97_5 a ∧ z97_6 a ∧ z97_7 a
abbrev z97_55 (a : TS) : Nat := a.l.length + 1
abbrev z97_56 (a : TS) (a1 : TS) : Prop := a.l.length = z97_55 a1
abbrev z97_57 (i : Nat) (a : TS) : Bool := decide (i < a.l.length)
abbrev z97_58 (a : DM) (a1 : TS) : Prop := a.tr.length = a1.l.length
abbrev z97_59 (a : TS) : Prop := 0 + a.l.length ≤ a.l.length
abbrev z97_60 (a : TS) (j : Nat) : Step := gD a.l (0 + j)
abbrev z97_61 (a : DM) (a1 : TS) : Prop := ∀ (j : Nat), j < a.tr.length → (gD a.tr j).way = (z97_60 a1 j).way ∧ (gD a.tr j).back = (z97_60 a1 j).back
theorem vc97 (a : DM) : (V97 a) = ((∃ (a_1 : One), (a.fr = a.fr ∧ z97_0 ∧ (∀ (i : Nat), i < 0 → false = false) ∧ a.to = a.to ∧ z97_0 ∧ z97_1 a ∧ z97_2 a ∧ z97_3 a ∧ z97_1 a ∧ z97_4 a ∧ zFar = zFar ∧ z97_5 a ∧ z97_6 a ∧
 z97_7 a ∧ a.most = a.most) ∧ True) ∧ (∀ (a_1 : One), True → bif a.to != a.fr then z97_8 ∧ ((True ∧ (0 < 0 → 0 = 2)) ∧ z97_11 ∧ (true = true → z97_9) ∧ 1 ≤ 9223372036854775807 ∧ 16 ≤ 140737488355328) ∧ ((a.m.far
 a.to).by'.way = (a.m.far a.to).by'.way ∧ (!(a.m.far a.to).by'.back) = !(a.m.far a.to).by'.back ∧ z97_0 ∧ z97_14 a ∧ z97_2 a ∧ z97_3 a ∧ z97_14 a ∧ z97_22 a ∧ z97_0 ∧ z97_23 a ∧ z97_2 a ∧ z97_3 a ∧ z97_23 a ∧ z97_24 a ∧ 0
 ≤ (a.m.far a.to).by'.way ∧ (a.m.far a.to).by'.way < (↑(z97_13 a) : Int)) ∧ ∃ (a_3 : TS), (a.fr = a.fr ∧ z97_0 ∧ z97_25 a_3 ∧ a_3.v = toM (z97_26 a) (Step.mk (a.m.far a.to).by'.way !(a.m.far a.to).by'.back) ∧ z97_0 ∧
 z97_1 a ∧ z97_2 a ∧ z97_3 a ∧ z97_1 a ∧ z97_4 a ∧ zFar = zFar ∧ z97_5 a ∧ z97_6 a ∧ z97_7 a ∧ a.most = a.most ∧ z97_25 a_3 ∧ ∀ (i : Nat), i < a_3.l.length → (gD a_3.l i).way = (a.m.far a.to).by'.way ∧ (gD a_3.l i).back =
 (a.m.far a.to).by'.back) ∧ z97_27 a_3 a ∧ z97_28 a a_3 < a.tr.length else (∃ (a_3 : KI), (z97_29 a ∧ z97_29 a ∧ z97_29 a ∧ z97_29 a ∧ (↑a.tr.length : Int) = (↑0 : Int) ∧ z97_30 a_3 a) ∧ z97_31 a_3 a) ∧ z97_54 a) ∧ ∀ (a_1
 : TS), z97_27 a_1 a → bif a_1.v != a.fr then z97_8 ∧ ((a_1.l.length = a_1.l.length ∧ (0 < a_1.l.length → z97_10)) ∧ z97_11 ∧ (false = true → z97_9) ∧ z97_55 a_1 ≤ 9223372036854775807 ∧ z97_55 a_1 * 16 ≤ 140737488355328)
 ∧ ((a.m.far a_1.v).by'.way = (a.m.far a_1.v).by'.way ∧ (!(a.m.far a_1.v).by'.back) = !(a.m.far a_1.v).by'.back ∧ z97_0 ∧ z97_14 a ∧ z97_2 a ∧ z97_3 a ∧ z97_14 a ∧ z97_22 a ∧ z97_0 ∧ z97_23 a ∧ z97_2 a ∧ z97_3 a ∧ z97_23
 a ∧ z97_24 a ∧ 0 ≤ (a.m.far a_1.v).by'.way ∧ (a.m.far a_1.v).by'.way < (↑(z97_13 a) : Int)) ∧ ∃ (a_3 : TS), (a.fr = a.fr ∧ z97_0 ∧ z97_56 a_3 a_1 ∧ a_3.v = toM (z97_26 a) (Step.mk (a.m.far a_1.v).by'.way !(a.m.far
 a_1.v).by'.back) ∧ z97_0 ∧ z97_1 a ∧ z97_2 a ∧ z97_3 a ∧ z97_1 a ∧ z97_4 a ∧ zFar = zFar ∧ z97_5 a ∧ z97_6 a ∧ z97_7 a ∧ a.most = a.most ∧ z97_56 a_3 a_1 ∧ ∀ (i : Nat), i < a_3.l.length → ((gD a_3.l i).way = bif z97_57 i
 a_1 then (gD a_1.l i).way else (a.m.far a_1.v).by'.way) ∧ (gD a_3.l i).back = bif z97_57 i a_1 then (gD a_1.l i).back else (a.m.far a_1.v).by'.back) ∧ z97_27 a_3 a ∧ z97_28 a a_3 < z97_28 a a_1 else (∃ (a_3 : KI),
 (z97_58 a a_1 ∧ z97_59 a_1 ∧ z97_61 a a_1 ∧ z97_58 a a_1 ∧ z97_59 a_1 ∧ z97_61 a a_1 ∧ (↑a.tr.length : Int) = (↑a_1.l.length : Int) ∧ z97_30 a_3 a) ∧ z97_31 a_3 a) ∧ z97_54 a) := by kernel_rfl
theorem trail_step {d : Desk} {m : Map} {fr : Int} {k : Nat} {v : Int} {L : List Step} (h : trailM d m fr (k + 1) v = some L) (hv : v ≠ fr) : ∃ L', L = (m.far v).by' :: L' ∧ trailM d m fr k (toM d ⟨(m.far v).by'.way, !(m.far v).by'.back⟩) = some L' := by
  simp only [trailM, if_neg hv] at h
  split at h
  · cases h
  · rename_i l hl
    cases h; exact ⟨l, rfl, hl⟩
theorem trail_stop {d : Desk} {m : Map} {fr : Int} {k : Nat} {v : Int} {L : List Step} (h : trailM d m fr k v = some L) (hv : v = fr) : L = [] := by
  cases k with
  | zero => cases h
  | succ k => simp only [trailM, if_pos hv] at h; cases h; rfl
theorem lst_head {α : Type} [Inhabited α] {L M : List α} {x : α} {n : Nat} (h : L = M ++ L.drop n) (hn : M.length = n) (hd : L.drop n = x :: L.drop (n + 1)) : L = (M ++ [x]) ++ L.drop (n + 1) := by
  rw [List.append_assoc, List.singleton_append, ← hd]; exact h
theorem drop_succ {α : Type} {L : List α} {x : α} {n : Nat} {R : List α} (h : L.drop n = x :: R) : L.drop (n + 1) = R := by
  rw [← List.drop_drop, h]; rfl
theorem gD_mem {α : Type} [Inhabited α] {l : List α} {k : Nat} (h : k < l.length) : gD l k ∈ l := by
  simp only [gD, List.getD_eq_getElem?_getD, List.getElem?_eq_getElem h, Option.getD_some]; exact List.getElem_mem h
theorem p97 (a : DM) (hd : a.d.ok) (ht : (trailM a.d a.m a.fr fuel a.to).isSome = true) (hs : ∀ s ∈ a.tr, 0 ≤ s.way ∧ s.way < a.d.all.length) (hL : a.tr.length ≤ 1000) : V97 a := by
  have htr : trailM a.d a.m a.fr fuel a.to = some a.tr := by
    obtain ⟨r, h⟩ := Option.isSome_iff_exists.1 ht
    simp [DM.tr, h]
  have hfuel : fuel = 1000000000000000000 := rfl
  obtain ⟨K, hK⟩ : ∃ K, fuel = K + 1 := ⟨999999999999999999, rfl⟩
  have hlen := hd.len
  have hq : leastRoom a.d a.most a.tr = a.q := rfl
  rw [vc97]; delta z97_0 z97_1 z97_2 z97_3 z97_4 z97_5 z97_6 z97_7 z97_8 z97_9 z97_10 z97_11 z97_12 z97_13 z97_14 z97_15 z97_16 z97_17 z97_18 z97_19 z97_20 z97_21 z97_22 z97_23 z97_24 z97_25 z97_26 z97_27 z97_28 z97_29 z97_30 z97_31 z97_32 z97_33 z97_34 z97_35 z97_36 z97_37 z97_38 z97_39 z97_40 z97_41 z97_42 z97_43 z97_44 z97_45 z97_46 z97_47 z97_48 z97_49 z97_50 z97_51 z97_52 z97_53 z97_54 z97_55 z97_56 z97_57 z97_58 z97_59 z97_60 z97_61
  simp only [condP, eq_self, implies_true, and_self, true_and, and_true, true_implies, forall_const, decide_eq_true_eq, decide_eq_false_iff_not, Int.toNat_natCast, dSpan_eSpan, dReach_eReach, dWay_eWay, dStep_eStep, dFar_eFar, dInt_eInt, Nat.zero_add, Int.zero_sub, Nat.le_eq, Nat.succ_eq_add_one, Nat.add_one_le_iff, Bool.not_eq_true', Bool.not_eq_false', rng_length, dSpan_mk, dReach_mk, dWay_mk, dStep_mk, dFar_mk, rng_getD, bne_iff_ne, ne_eq, bne_eq_false_iff_eq, minI_eq, pushW_length, toM_eta]
  generalize a.tr = L at *
  generalize a.q = q at *
  refine ⟨⟨⟨0⟩, trivial⟩, ⟨fun hne => ?g1, fun heq => ⟨?g2, ?rest⟩⟩, fun a1 ⟨h1, h2, k1, hk1, hl1⟩ => ⟨fun hne => ?g3, fun heq => ⟨?g4, ?rest2⟩⟩⟩
  case g1 =>
    rw [hK] at htr
    obtain ⟨L', e1, e2⟩ := trail_step htr hne
    have hs1 := hs _ (show (a.m.far a.to).by' ∈ L by rw [e1]; simp)
    refine ⟨rfl, by decide, hs1, ⟨[(a.m.far a.to).by'], _⟩, ⟨rfl, rfl, rfl, fun i hi => ?_⟩, ⟨by rw [e1]; simp, by rw [e1]; simp, K, hK.symm.trans hfuel, ?_⟩, by rw [e1]; simp⟩
    · have : i = 0 := by simpa using hi
      subst this; exact ⟨rfl, rfl⟩
    · rw [e1]; exact e2
  case g2 =>
    have := trail_stop htr heq
    subst this
    exact ⟨⟨0, a.most⟩, ⟨rfl, rfl, rfl, rfl, rfl, rfl, rfl⟩, by simp, hq⟩
  case g3 =>
    cases k1 with
    | zero => cases hl1
    | succ k1 =>
    obtain ⟨L', e1, e2⟩ := trail_step hl1 hne
    have hlt : a1.l.length < L.length := by
      have := congrArg List.length e1
      simp at this; omega
    have e3 : L.drop (a1.l.length + 1) = L' := drop_succ e1
    have hs1 := hs _ (show (a.m.far a1.v).by' ∈ L by rw [h2, e1]; simp)
    refine ⟨rfl, ⟨by decide, by decide, by omega, by omega⟩, hs1, ⟨a1.l ++ [(a.m.far a1.v).by'], _⟩, ⟨by simp, rfl, by simp, fun i hi => ?_⟩, ⟨by simp; omega, ?_, k1, by simp; omega, ?_⟩, by simp; omega⟩
    · rw [gD_append]
      by_cases hi2 : i < a1.l.length
      · simp [hi2]
      · have hi3 : i - a1.l.length = 0 := by simp at hi; omega
        simp only [hi2, if_false, hi3, decide_false, cond_false]
        exact ⟨rfl, rfl⟩
    · have : (a1.l ++ [(a.m.far a1.v).by']).length = a1.l.length + 1 := by simp
      rw [this]
      refine lst_head h2 rfl ?_
      rw [e3]; exact e1
    · have : (a1.l ++ [(a.m.far a1.v).by']).length = a1.l.length + 1 := by simp
      rw [this, e3]
      exact e2
  case g4 =>
    have e := trail_stop hl1 heq
    rw [e, List.append_nil] at h2
    subst h2
    exact ⟨⟨0, a.most⟩, ⟨rfl, Nat.le_refl _, fun _ _ => ⟨rfl, rfl⟩, rfl, Nat.le_refl _, fun _ _ => ⟨rfl, rfl⟩, rfl, rfl, rfl⟩, by simp, hq⟩
  case rest | rest2 =>
    intro a2 ⟨h3, h4⟩
    refine ⟨fun hlt => ⟨⟨by omega, hlt⟩, hs _ (gD_mem (by omega)), ⟨⟨a2.k + 1, _⟩, ⟨(wsucc (by omega)).symm, rfl⟩, ⟨by show a2.k + 1 ≤ _; omega, ?_⟩, by show _ - (a2.k + 1) < _; omega⟩⟩, fun hge => ⟨⟨⟨0, a.d.all⟩, ⟨rfl, rfl, rfl, fun i _ => ⟨rfl, rfl, rfl, rfl, rfl⟩, ?_⟩, by simp, rfl, rfl⟩, fun a5 ⟨h5, h6, h7⟩ => ⟨fun hlt => ?_, fun hge => ?_⟩⟩⟩
    · rw [drop_gD (by omega)] at h4; exact h4
    · rw [List.drop_eq_nil_of_le (by omega)] at h4; exact h4.symm
    · refine ⟨⟨by omega, hlt⟩, by rw [h6]; exact hs _ (gD_mem (by omega)), ⟨⟨a5.k + 1, pushW q a5.all (gD L a5.k)⟩, ⟨(wsucc (by omega)).symm, pushW_length _ _ _, pushW_length _ _ _, fun i _ => ⟨rfl, rfl, rfl, rfl, rfl⟩⟩, ⟨by show a5.k + 1 ≤ _; omega, (pushW_length _ _ _).trans h6, ?_⟩, by show _ - (a5.k + 1) < _; omega⟩⟩
      rw [drop_gD (by omega)] at h7; exact h7
    · rw [List.drop_eq_nil_of_le (by omega)] at h7
      have h7 : a5.all = pushAll q a.d.all L := h7
      rw [← h7]
      exact ⟨rfl, rfl, fun i _ => ⟨rfl, rfl, rfl, rfl, rfl⟩⟩
theorem ok97 (dec : List AVal → Heap → Option (DM × List (Nat × Nat) × List Nat)) : SpecOk Try.prog 97 (C97.spec dec) := okC C97 A97 [] [] Try.func97 (fun _ => by kernel_rfl) (fun _ => gok_cons ok87 (gok_cons ok85 (gok_cons ok108 gok_nil))) (fun a h => p97 a h.1 h.2.1 h.2.2.1 h.2.2.2) (fun _ => noI rfl rfl) _
end Go.Bal
