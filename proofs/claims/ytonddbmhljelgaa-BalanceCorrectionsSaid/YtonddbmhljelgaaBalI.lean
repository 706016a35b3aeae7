/- Package balance: shift, copied, span. -/
import Derived.Test.YtonddbmhljelgaaBalH
set_option linter.unusedVariables false
set_option linter.unusedSimpArgs false
namespace Go.Bal
open Go Go.Sym Go.Proofs
structure SA where
  d : Desk
  at' : Int
  up : Bool
  most : Int
structure SS where
  all : List Way
  total : Int
  k : Nat
  deriving Inhabited
def dec97f (at' : Int) : List AVal → Heap → Option (DM × List (Nat × Nat) × List Nat)
  | [.bptr id _, .d (.v (.int _ fr)), .d (.v (.int _ to)), .mref m, .d (.v (.int _ most))], H => match decDesk H id with
    | some (d, r) => some (⟨d, fr, to, (rOf d (freeM d at') fr).m, (rOf d (freeM d at') fr).st, most⟩, [(100, id), (101, r), (104, m)], [])
    | none => none
  | _, _ => none
def SA.res (a : SA) : Desk × Int := (shiftV a.d a.at' a.up a.most).getD default
def shiftX (a : SA) : List (Nat × HCell) := [(300, .live (.box [.bptr 100 0])), (303, .live (.box [.int a.at'])), (301, .live (.box [.fn (.func 101) [] [.bptr 300 0, .bptr 303 0]])), (302, .live (.box [.int a.at', .bool (!a.up)]))]
def shiftOut (a : SA) (res : Desk × Int) : Shape := { α := SS, dflt := default, T := fun s => ⟨[(2, .bool a.up), (3, .int a.most), (4, .bptr 300 0), (5, .bptr 303 0), (9, .bptr 301 0), (10, .bptr 302 0), (11, .int s.total)], deskK (Desk.mk s.all a.d.out a.d.nR) ++ shiftX a⟩, inv := fun s => s.all.length = a.d.all.length ∧ (Desk.mk s.all a.d.out a.d.nR).ok ∧ shiftM a.at' a.up a.most s.k (Desk.mk s.all a.d.out a.d.nR) s.total = some res, meas := fun s => s.k, first := [(300, 1000), (303, 1016), (301, 2032), (302, 3064)] }
def A77 (a : SA) (res : Desk × Int) : Ann := { ann 100 [(85, C85.spec dDS), (87, C87.spec dDS), (57, s57f), (97, C97.spec (dec97f a.at'))] with E := [100, 101], loops := fun id => if id = 4 then some [shiftOut a res] else none }
def C77 : Ctr := { α := SA, xs := fun a => [.bptr 100 0, .int a.at', .bool a.up, .int a.most], L := fun a => deskL a.d, val := fun a => .int a.res.2, keep := fun a => deskK a.res.1, pre := fun a => [a.d.ok, 0 ≤ a.at' ∧ a.at' < a.d.all.length, (shiftV a.d a.at' a.up a.most).isSome = true] }
def V77 (a : SA) : Prop := fnVC Try.prog (A77 a a.res) Try.f77 (bodyOf Try.f77) (C77.xs a) (heapOf (C77.L a)) (C77.val a) (C77.keep a) [] []
abbrev z77_0 : Prop := 0 = 0
abbrev z77_1 (a : SS) (a1 : SA) : Prop := a.all.length = a1.d.all.length
abbrev z77_2 (a : SA) : Prop := (↑a.d.out : Int) = (↑a.d.out : Int)
abbrev z77_3 (a : SA) : Prop := (↑a.d.nR : Int) = (↑a.d.nR : Int)
abbrev z77_4 (a : SA) : Prop := a.at' = a.at' ∧ a.at' = a.at' ∧ (!a.up) = !a.up
abbrev z77_5 (a : SS) (a1 : SA) : Prop := z77_1 a a1 ∧ (Desk.mk a.all a1.d.out a1.d.nR).ok ∧ shiftM a1.at' a1.up a1.most a.k (Desk.mk a.all a1.d.out a1.d.nR) a.total = some a1.res
abbrev z77_6 (a : SS) : List Way := rng a.all.length fun (i : Nat) => gD a.all i
abbrev z77_7 (a : SS) : Nat := (z77_6 a).length
abbrev z77_8 (a : SS) : Prop := z77_7 a = a.all.length
abbrev z77_9 (a : SS) (i : Nat) : Way := gD (z77_6 a) i
abbrev z77_10 (a : SS) (i : Nat) : Int := (z77_9 a i).fr
abbrev z77_11 (a : SS) (i : Nat) : Int := (z77_9 a i).to
abbrev z77_12 (a : SS) (i : Nat) : Span := (z77_9 a i).sp
abbrev z77_13 (a : SS) (i : Nat) : Int := (z77_12 a i).lo
abbrev z77_14 (a : SS) (i : Nat) : Int := (z77_12 a i).hi
abbrev z77_15 (a : SS) (i : Nat) : Int := (z77_9 a i).now
abbrev z77_16 (a : SS) : Prop := ∀ (i : Nat), i < z77_7 a → z77_10 a i = (gD a.all i).fr ∧ z77_11 a i = (gD a.all i).to ∧ z77_13 a i = (gD a.all i).sp.lo ∧ z77_14 a i = (gD a.all i).sp.hi ∧ z77_15 a i = (gD a.all i).now
abbrev z77_17 (a : SS) : Prop := a.all.length = z77_7 a
abbrev z77_18 (a : SS) : Prop := ∀ (i : Nat), i < a.all.length → (gD a.all i).fr = z77_10 a i ∧ (gD a.all i).to = z77_11 a i ∧ (gD a.all i).sp.lo = z77_13 a i ∧ (gD a.all i).sp.hi = z77_14 a i ∧ (gD a.all i).now = z77_15
 a i
abbrev z77_19 (a : SA) : Prop := 0 ≤ a.at'
abbrev z77_20 (a : SA) (a1 : SS) : Prop := z77_19 a ∧ a.at' < (↑(z77_7 a1) : Int)
abbrev z77_21 (a : SS) (a1 : SA) : Prop := z77_0 ∧ z77_8 a ∧ z77_2 a1 ∧ z77_3 a1 ∧ z77_8 a ∧ z77_16 a ∧ z77_0 ∧ z77_17 a ∧ z77_2 a1 ∧ z77_3 a1 ∧ z77_17 a ∧ z77_18 a ∧ z77_20 a1 a
abbrev z77_22 (a : SS) (a1 : SA) : Desk := Desk.mk (z77_6 a) a1.d.out a1.d.nR
abbrev z77_23 (a : SS) (a1 : SA) : Int := toM (z77_22 a a1) (Step.mk a1.at' !a1.up)
abbrev z77_24 (a : SS) (a1 : SA) : Prop := z77_23 a a1 = z77_23 a a1
abbrev z77_25 (a : SS) (a1 : SA) : Prop := (z77_22 a a1).ok
abbrev z77_26 (a : SS) (a1 : SA) : Rule := RF (z77_22 a a1) a1.at'
abbrev z77_27 (a : SS) (a1 : SA) : RT := rOf (z77_22 a a1) (z77_26 a a1).counts (z77_23 a a1)
abbrev z77_28 (a : SS) (a1 : SA) : Map := (z77_27 a a1).m
abbrev z77_29 (a : SS) (a1 : SA) : Int := toM (z77_22 a a1) (Step.mk a1.at' a1.up)
abbrev z77_30 (a : SS) (a1 : SA) : Int × Int := roomM (getW (z77_6 a) a1.at') !a1.up
abbrev z77_31 (a : SA) (a1 : SS) : Prop := a.res.fst.all.length = a1.all.length
abbrev z77_32 (a : SA) (i : Nat) : Way := gD a.res.fst.all i
abbrev z77_33 (a : SA) (i : Nat) : Span := (z77_32 a i).sp
abbrev z77_34 (a : SA) (a1 : SS) : Prop := a.res.snd = a1.total ∧ z77_0 ∧ z77_31 a a1 ∧ (↑a.res.fst.out : Int) = (↑a.d.out : Int) ∧ (↑a.res.fst.nR : Int) = (↑a.d.nR : Int) ∧ z77_31 a a1 ∧ ∀ (i : Nat), i <
 a.res.fst.all.length → (z77_32 a i).fr = (gD a1.all i).fr ∧ (z77_32 a i).to = (gD a1.all i).to ∧ (z77_33 a i).lo = (gD a1.all i).sp.lo ∧ (z77_33 a i).hi = (gD a1.all i).sp.hi ∧ (z77_32 a i).now = (gD a1.all i).now
abbrev z77_35 (a : SS) (a1 : SA) : Int := minI (z77_30 a a1).snd (IntKind.i64.wrap (a1.most - a.total))
abbrev z77_36 (a : SS) (a1 : SA) : RT := rOf (z77_22 a a1) (freeM (z77_22 a a1) a1.at') (z77_23 a a1)
abbrev z77_37 (a : SS) (a1 : SA) : Map := (z77_36 a a1).m
abbrev z77_38 (a : SS) (a1 : SA) (n : Int) : Bool := ((z77_37 a a1).at n).isSome
abbrev z77_39 (a : SS) (a1 : SA) (n : Int) : Bool := ((z77_28 a a1).at n).isSome
abbrev z77_40 (a : SS) (a1 : SA) (n : Int) : Int := (z77_36 a a1).st n
abbrev z77_41 (a : SS) (a1 : SA) (n : Int) : Int := (z77_27 a a1).st n
abbrev z77_42 (a : SS) (a1 : SA) (n : Int) : Far := (z77_37 a a1).far n
abbrev z77_43 (a : SS) (a1 : SA) (n : Int) : Int := (z77_42 a a1 n).cost
abbrev z77_44 (a : SS) (a1 : SA) (n : Int) : Far := (z77_28 a a1).far n
abbrev z77_45 (a : SS) (a1 : SA) (n : Int) : Int := (z77_44 a a1 n).cost
abbrev z77_46 (a : SS) (a1 : SA) (n : Int) : Int := (z77_42 a a1 n).many
abbrev z77_47 (a : SS) (a1 : SA) (n : Int) : Int := (z77_44 a a1 n).many
abbrev z77_48 (a : SS) (a1 : SA) (n : Int) : Step := (z77_42 a a1 n).by'
abbrev z77_49 (a : SS) (a1 : SA) (n : Int) : Int := (z77_48 a a1 n).way
abbrev z77_50 (a : SS) (a1 : SA) (n : Int) : Step := (z77_44 a a1 n).by'
abbrev z77_51 (a : SS) (a1 : SA) (n : Int) : Int := (z77_50 a a1 n).way
abbrev z77_52 (a : SS) (a1 : SA) (n : Int) : Bool := (z77_48 a a1 n).back
abbrev z77_53 (a : SS) (a1 : SA) (n : Int) : Bool := (z77_50 a a1 n).back
abbrev z77_54 (a : SS) (a1 : SA) : DM := DM.mk (z77_22 a a1) (z77_23 a a1) (z77_29 a a1) (z77_37 a a1) (z77_36 a a1).st (z77_35 a a1)
abbrev z77_55 (a : SS) (a1 : SA) : Int := (z77_54 a a1).q
abbrev z77_56 (a : SS) (a1 : SA) : List Step := (z77_54 a a1).tr
abbrev z77_57 (a : SS) (a1 : SA) : List Way := pushAll (z77_55 a a1) (z77_6 a) (z77_56 a a1)
abbrev z77_58 (a : SS) (a1 : SA) : Nat := (z77_57 a a1).length
abbrev z77_59 (a : SA) (a1 : SS) : Prop := z77_19 a ∧ a.at' < (↑a1.all.length : Int)
abbrev z77_60 (a : SA) : Nat := 0 + a.at'.toNat
abbrev z77_61 (a : SA) (a1 : SS) : Prop := z77_59 a a1 ∧ z77_60 a < z77_58 a1 a ∧ z77_59 a a1 ∧ (z77_60 a).succ.le (z77_58 a1 a)
abbrev z77_62 (a : SS) (a1 : SS) (a2 : SA) : Prop := a.total = IntKind.i64.wrap (a1.total + z77_55 a1 a2)
abbrev z77_63 (a : SS) (a1 : SS) : Prop := a.all.length = a1.all.length
abbrev z77_64 (a : SS) (a1 : SS) (a2 : SA) : Prop := a.all.length = z77_58 a1 a2
abbrev z77_65 (i : Nat) (a : SA) : Bool := decide (i = z77_60 a)
abbrev z77_66 (a : SS) (a1 : SA) : Way := gD (z77_57 a a1) (z77_60 a1)
abbrev z77_67 (a : SS) (a1 : SA) (i : Nat) : Way := gD (z77_57 a a1) i
abbrev z77_68 (a : SS) (i : Nat) (a1 : SA) (a2 : SS) : Prop := (gD a.all i).fr = bif z77_65 i a1 then (z77_66 a2 a1).fr else (z77_67 a2 a1 i).fr
abbrev z77_69 (a : SS) (i : Nat) (a1 : SA) (a2 : SS) : Prop := (gD a.all i).to = bif z77_65 i a1 then (z77_66 a2 a1).to else (z77_67 a2 a1 i).to
abbrev z77_70 (a : SS) (a1 : SA) : Span := (z77_66 a a1).sp
abbrev z77_71 (a : SS) (a1 : SA) (i : Nat) : Span := (z77_67 a a1 i).sp
abbrev z77_72 (a : SS) (i : Nat) (a1 : SA) (a2 : SS) : Prop := (gD a.all i).sp.lo = bif z77_65 i a1 then (z77_70 a2 a1).lo else (z77_71 a2 a1 i).lo
abbrev z77_73 (a : SS) (i : Nat) (a1 : SA) (a2 : SS) : Prop := (gD a.all i).sp.hi = bif z77_65 i a1 then (z77_70 a2 a1).hi else (z77_71 a2 a1 i).hi
abbrev z77_74 (a : SS) (a1 : SA) : Int := (z77_66 a a1).now
abbrev z77_75 (a : SS) (a1 : SA) (i : Nat) : Int := (z77_67 a a1 i).now
abbrev z77_76 (a : SS) (a1 : SA) (a2 : SS) : Prop := z77_5 a a1 ∧ (shiftOut a1 a1.res).meas a < (shiftOut a1 a1.res).meas a2
theorem vc77 (a : SA) : (V77 a) = ((∃ (a_1 : SS), (a.up = a.up ∧ a.most = a.most ∧ a_1.total = 0 ∧ z77_0 ∧ z77_1 a_1 a ∧ z77_2 a ∧ z77_3 a ∧ z77_1 a_1 a ∧ (∀ (i : Nat), i < a_1.all.length → (gD a_1.all i).fr = (gD
 a.d.all i).fr ∧ (gD a_1.all i).to = (gD a.d.all i).to ∧ (gD a_1.all i).sp.lo = (gD a.d.all i).sp.lo ∧ (gD a_1.all i).sp.hi = (gD a.d.all i).sp.hi ∧ (gD a_1.all i).now = (gD a.d.all i).now) ∧ z77_4 a) ∧ z77_5 a_1 a) ∧ ∀
 (a_1 : SS), z77_5 a_1 a → bif decide (a.most > a_1.total) then (a.at' = a.at' ∧ (!a.up) = !a.up ∧ z77_21 a_1 a) ∧ (a.at' = a.at' ∧ (!a.up) = !a.up ∧ z77_0 ∧ z77_8 a_1 ∧ z77_2 a ∧ z77_3 a ∧ z77_8 a_1 ∧ z77_16 a_1 ∧ z77_0
 ∧ z77_17 a_1 ∧ z77_2 a ∧ z77_3 a ∧ z77_17 a_1 ∧ z77_18 a_1 ∧ z77_20 a a_1 ∧ a.at' = a.at' ∧ a.up = a.up ∧ z77_21 a_1 a) ∧ (z77_24 a_1 a ∧ z77_0 ∧ z77_8 a_1 ∧ z77_2 a ∧ z77_3 a ∧ z77_8 a_1 ∧ z77_16 a_1 ∧ a.at' = a.at' ∧
 z77_0 ∧ z77_17 a_1 ∧ z77_2 a ∧ z77_3 a ∧ z77_17 a_1 ∧ z77_18 a_1 ∧ a.at' = a.at' ∧ z77_25 a_1 a ∧ (0 ≤ z77_23 a_1 a ∧ z77_23 a_1 a < (↑a.d.out : Int) + 2) ∧ (reachV (z77_22 a_1 a) (z77_26 a_1 a).counts (z77_23 a_1
 a)).isSome = true) ∧ Value.agg #[Value.int IntKind.i64 0, Value.int IntKind.i64 0, Value.int IntKind.i64 0, Value.bool false] = zFar ∧ bif bif !((z77_28 a_1 a).at (z77_29 a_1 a)).isSome then true else decide ((z77_30 a_1
 a).fst > 0) then z77_34 a a_1 else (z77_24 a_1 a ∧ z77_29 a_1 a = z77_29 a_1 a ∧ z77_35 a_1 a = z77_35 a_1 a ∧ z77_0 ∧ z77_8 a_1 ∧ z77_2 a ∧ z77_3 a ∧ z77_8 a_1 ∧ z77_16 a_1 ∧ zFar = zFar ∧ (∀ (n : Int), z77_38 a_1 a n =
 z77_39 a_1 a n) ∧ (∀ (n : Int), z77_40 a_1 a n = z77_41 a_1 a n) ∧ (∀ (n : Int), z77_43 a_1 a n = z77_45 a_1 a n ∧ z77_46 a_1 a n = z77_47 a_1 a n ∧ z77_49 a_1 a n = z77_51 a_1 a n ∧ z77_52 a_1 a n = z77_53 a_1 a n) ∧
 z77_0 ∧ a_1.all.length = z77_58 a_1 a ∧ z77_2 a ∧ z77_3 a ∧ zFar = zFar ∧ (∀ (n : Int), z77_39 a_1 a n = z77_38 a_1 a n) ∧ (∀ (n : Int), z77_41 a_1 a n = z77_40 a_1 a n) ∧ (∀ (n : Int), z77_45 a_1 a n = z77_43 a_1 a n ∧
 z77_47 a_1 a n = z77_46 a_1 a n ∧ z77_51 a_1 a n = z77_49 a_1 a n ∧ z77_53 a_1 a n = z77_52 a_1 a n) ∧ z77_25 a_1 a ∧ (trailM (z77_22 a_1 a) (z77_37 a_1 a) (z77_23 a_1 a) fuel (z77_29 a_1 a)).isSome = true ∧ (∀ (s :
 Step), List.Mem s (z77_56 a_1 a) → 0 ≤ s.way ∧ s.way < (↑(z77_7 a_1) : Int)) ∧ (z77_56 a_1 a).length.le 1000) ∧ bif a.up then z77_61 a a_1 ∧ ∃ (a_3 : SS), (a.up = a.up ∧ a.most = a.most ∧ z77_62 a_3 a_1 a ∧ z77_0 ∧
 z77_63 a_3 a_1 ∧ z77_2 a ∧ z77_3 a ∧ z77_64 a_3 a_1 a ∧ (∀ (i : Nat), i < a_3.all.length → z77_68 a_3 i a a_1 ∧ z77_69 a_3 i a a_1 ∧ z77_72 a_3 i a a_1 ∧ z77_73 a_3 i a a_1 ∧ (gD a_3.all i).now = bif z77_65 i a then
 IntKind.i64.wrap (z77_74 a_1 a + z77_55 a_1 a) else z77_75 a_1 a i) ∧ z77_4 a) ∧ z77_76 a_3 a a_1 else z77_61 a a_1 ∧ ∃ (a_3 : SS), (a.up = a.up ∧ a.most = a.most ∧ z77_62 a_3 a_1 a ∧ z77_0 ∧ z77_63 a_3 a_1 ∧ z77_2 a ∧
 z77_3 a ∧ z77_64 a_3 a_1 a ∧ (∀ (i : Nat), i < a_3.all.length → z77_68 a_3 i a a_1 ∧ z77_69 a_3 i a a_1 ∧ z77_72 a_3 i a a_1 ∧ z77_73 a_3 i a a_1 ∧ (gD a_3.all i).now = bif z77_65 i a then IntKind.i64.wrap (z77_74 a_1 a
 - z77_55 a_1 a) else z77_75 a_1 a i) ∧ z77_4 a) ∧ z77_76 a_3 a a_1 else z77_34 a a_1) := by kernel_rfl
theorem RF_counts (d : Desk) (q : Int) : (RF d q).counts = freeM d q := rfl
def shX (d : Desk) (at' : Int) (up : Bool) (most total : Int) : DM := DM.mk d (toM d (Step.mk at' (!up))) (toM d (Step.mk at' up)) (rOf d (freeM d at') (toM d (Step.mk at' (!up)))).m (rOf d (freeM d at') (toM d (Step.mk at' (!up)))).st (min (roomM (getW d.all at') (!up)).2 (wr (most - total)))
theorem shift_next {d : Desk} {at' : Int} {up : Bool} {most total : Int} {k : Nat} {res : Desk × Int} (hlt : total < most) (h : shiftM at' up most k d total = some res) : ∃ k', k = k' + 1 ∧ (reachV d (freeM d at') (toM d (Step.mk at' (!up)))).isSome = true ∧
    ((bif !((rOf d (freeM d at') (toM d (Step.mk at' (!up)))).m.at (toM d (Step.mk at' up))).isSome then true else decide (0 < (roomM (getW d.all at') (!up)).1)) = true → res = (d, total)) ∧
    ((bif !((rOf d (freeM d at') (toM d (Step.mk at' (!up)))).m.at (toM d (Step.mk at' up))).isSome then true else decide (0 < (roomM (getW d.all at') (!up)).1)) = false →
      (trailM d (shX d at' up most total).m (toM d (Step.mk at' (!up))) fuel (toM d (Step.mk at' up))).isSome = true ∧ (∀ s ∈ (shX d at' up most total).tr, 0 ≤ s.way ∧ s.way < d.all.length) ∧ (shX d at' up most total).tr.length ≤ 1000 ∧
      shiftM at' up most k' (Desk.mk (addNow (pushAll (shX d at' up most total).q d.all (shX d at' up most total).tr) at' up (shX d at' up most total).q) d.out d.nR) (wr (total + (shX d at' up most total).q)) = some res) := by
  cases k with
  | zero => cases h
  | succ k =>
    simp only [shiftM, if_pos hlt] at h
    split at h
    · cases h
    rename_i r hr
    have hrf : rOf d (freeM d at') (toM d (Step.mk at' (!up))) = r := by simp [rOf, hr]
    refine ⟨k, rfl, by rw [hr]; rfl, fun hc => ?_, fun hc => ?_⟩
    · rw [hrf] at hc
      rw [if_pos] at h
      · exact (Option.some.inj h).symm
      · cases hq : r.m.at (toM d (Step.mk at' up)) with
        | none => simp
        | some f => rw [hq] at hc; simpa using hc
    · rw [hrf] at hc
      have hn : ¬ ((r.m.at (toM d (Step.mk at' up))).isNone || decide (0 < (roomM (getW d.all at') (!up)).1)) = true := by
        cases hq : r.m.at (toM d (Step.mk at' up)) with
        | none => rw [hq] at hc; simp at hc
        | some f => rw [hq] at hc; simpa using hc
      rw [if_neg hn] at h
      split at h
      · cases h
      rename_i d2 q2 h2
      unfold movedM at h2
      split at h2
      · cases h2
      rename_i l hl
      split at h2
      · rename_i hg
        have hX : (shX d at' up most total).m = r.m := by simp only [shX, hrf]
        have htr : (shX d at' up most total).tr = l := by
          unfold DM.tr
          rw [hX]
          show (trailM d r.m (toM d (Step.mk at' (!up))) fuel (toM d (Step.mk at' up))).getD [] = l
          rw [hl]; rfl
        have hqq : (shX d at' up most total).q = leastRoom d (min (roomM (getW d.all at') (!up)).2 (wr (most - total))) l := by
          unfold DM.q; rw [htr]; rfl
        simp only [Bool.and_eq_true, List.all_eq_true, decide_eq_true_eq] at hg
        rw [hX, htr, hqq, hl]
        cases h2
        exact ⟨rfl, hg.1, hg.2, h⟩
      · cases h2
theorem addNow_len (all : List Way) (q : Int) (up : Bool) (n : Int) : (addNow all q up n).length = all.length := by simp [addNow]
theorem addNow_ends (all : List Way) (q : Int) (up : Bool) (n : Int) (i : Nat) : (gD (addNow all q up n) i).fr = (gD all i).fr ∧ (gD (addNow all q up n) i).to = (gD all i).to ∧ (gD (addNow all q up n) i).sp = (gD all i).sp := by
  unfold addNow
  by_cases h : q.toNat < all.length
  · rw [gD_modify h]; split
    · rename_i he; subst he; exact ⟨rfl, rfl, rfl⟩
    · exact ⟨rfl, rfl, rfl⟩
  · have : all.modify q.toNat (fun w => { w with now := if up then wr (w.now + n) else wr (w.now - n) }) = all := by
      apply List.ext_getElem?; intro j; rw [List.getElem?_modify]
      by_cases hj : q.toNat = j
      · subst hj; rw [List.getElem?_eq_none (by omega)]; rfl
      · simp [hj]
    rw [this]; exact ⟨rfl, rfl, rfl⟩
theorem ok_addNow {d : Desk} (h : d.ok) (q : Int) (up : Bool) (n : Int) : (Desk.mk (addNow d.all q up n) d.out d.nR).ok := by
  refine ⟨h.out, ?_, ?_, fun i hi => ?_⟩
  · show (addNow d.all q up n).length ≤ 23; rw [addNow_len]; exact h.len
  · show _ ≤ (addNow d.all q up n).length; rw [addNow_len]; exact h.cut
  · have hi : i < (addNow d.all q up n).length := hi
    rw [addNow_len] at hi
    obtain ⟨h1, h2, _⟩ := addNow_ends d.all q up n i
    show (0 ≤ (gD (addNow d.all q up n) i).fr ∧ _) ∧ _
    rw [h1, h2]
    exact h.ends i hi
theorem p77 (a : SA) (hd : a.d.ok) (hat : 0 ≤ a.at' ∧ a.at' < a.d.all.length) (hr : (shiftV a.d a.at' a.up a.most).isSome = true) : V77 a := by
  have hrf : shiftM a.at' a.up a.most fuel a.d 0 = some a.res := by
    obtain ⟨r, h⟩ := Option.isSome_iff_exists.1 hr
    unfold SA.res; rw [h]; exact h
  rw [vc77]; delta z77_0 z77_1 z77_2 z77_3 z77_4 z77_5 z77_6 z77_7 z77_8 z77_9 z77_10 z77_11 z77_12 z77_13 z77_14 z77_15 z77_16 z77_17 z77_18 z77_19 z77_20 z77_21 z77_22 z77_23 z77_24 z77_25 z77_26 z77_27 z77_28 z77_29 z77_30 z77_31 z77_32 z77_33 z77_34 z77_35 z77_36 z77_37 z77_38 z77_39 z77_40 z77_41 z77_42 z77_43 z77_44 z77_45 z77_46 z77_47 z77_48 z77_49 z77_50 z77_51 z77_52 z77_53 z77_54 z77_55 z77_56 z77_57 z77_58 z77_59 z77_60 z77_61 z77_62 z77_63 z77_64 z77_65 z77_66 z77_67 z77_68 z77_69 z77_70 z77_71 z77_72 z77_73 z77_74 z77_75 z77_76
  simp only [condP, eq_self, implies_true, and_self, true_and, and_true, true_implies, forall_const, decide_eq_true_eq, decide_eq_false_iff_not, Int.toNat_natCast, dSpan_eSpan, dReach_eReach, dWay_eWay, dStep_eStep, dFar_eFar, dInt_eInt, Nat.zero_add, Int.zero_sub, Nat.le_eq, Nat.succ_eq_add_one, Nat.add_one_le_iff, Bool.not_eq_true', Bool.not_eq_false', rng_length, dSpan_mk, dReach_mk, dWay_mk, dStep_mk, dFar_mk, rng_getD, RF_counts, minI_eq, pushAll_len, rng_push]
  generalize a.res = res at *
  refine ⟨⟨⟨a.d.all, 0, fuel⟩, ⟨rfl, rfl, rfl, fun _ _ => ⟨rfl, rfl, rfl, rfl, rfl⟩⟩, rfl, hd, hrf⟩, fun s ⟨h1, h2, h3⟩ => ⟨fun hlt => ?_, fun hge => ?_⟩⟩
  · obtain ⟨k', hk, hrv, hA, hB⟩ := shift_next hlt h3
    have hat' : 0 ≤ a.at' ∧ a.at' < s.all.length := by rw [h1]; exact hat
    have hto := toM_in h2 (s := ⟨a.at', !a.up⟩) hat'
    refine ⟨hat', hat', ⟨h2, hto, hrv⟩, rfl, fun hc => ?_, fun hc => ?_⟩
    · have := hA hc
      rw [this]; exact ⟨rfl, rfl, rfl, rfl, rfl, fun _ _ => ⟨rfl, rfl, rfl, rfl, rfl⟩⟩
    · obtain ⟨t1, t2, t3, t4⟩ := hB hc
      have hok2 := ok_addNow (ok_push h2 (shX (Desk.mk s.all a.d.out a.d.nR) a.at' a.up a.most s.total).q (shX (Desk.mk s.all a.d.out a.d.nR) a.at' a.up a.most s.total).tr) a.at' a.up (shX (Desk.mk s.all a.d.out a.d.nR) a.at' a.up a.most s.total).q
      have hln : (addNow (pushAll (shX (Desk.mk s.all a.d.out a.d.nR) a.at' a.up a.most s.total).q s.all (shX (Desk.mk s.all a.d.out a.d.nR) a.at' a.up a.most s.total).tr) a.at' a.up (shX (Desk.mk s.all a.d.out a.d.nR) a.at' a.up a.most s.total).q).length = s.all.length := by rw [addNow_len, pushAll_len]
      have hpt : ∀ (n : Int) (al : List Way) (i : Nat), al.length = s.all.length → gD (addNow al a.at' a.up n) i = if i = a.at'.toNat then { (gD al a.at'.toNat) with now := if a.up then wr ((gD al a.at'.toNat).now + n) else wr ((gD al a.at'.toNat).now - n) } else gD al i := fun n al i hl => by
        unfold addNow; rw [gD_modify (by omega)]
      refine ⟨⟨h2, t1, t2, t3⟩, fun hup => ?_, fun hup => ?_⟩
      · refine ⟨⟨hat', by omega, hat', by omega⟩, ⟨addNow (pushAll (shX (Desk.mk s.all a.d.out a.d.nR) a.at' a.up a.most s.total).q s.all (shX (Desk.mk s.all a.d.out a.d.nR) a.at' a.up a.most s.total).tr) a.at' a.up (shX (Desk.mk s.all a.d.out a.d.nR) a.at' a.up a.most s.total).q, wr (s.total + (shX (Desk.mk s.all a.d.out a.d.nR) a.at' a.up a.most s.total).q), k'⟩, ⟨rfl, hln, hln, fun i _ => ?_⟩, ⟨hln.trans h1, hok2, t4⟩, by show k' < s.k; omega⟩
        show (gD (addNow (pushAll (shX (Desk.mk s.all a.d.out a.d.nR) a.at' a.up a.most s.total).q s.all (shX (Desk.mk s.all a.d.out a.d.nR) a.at' a.up a.most s.total).tr) a.at' a.up (shX (Desk.mk s.all a.d.out a.d.nR) a.at' a.up a.most s.total).q) i).fr = _ ∧ (gD (addNow (pushAll (shX (Desk.mk s.all a.d.out a.d.nR) a.at' a.up a.most s.total).q s.all (shX (Desk.mk s.all a.d.out a.d.nR) a.at' a.up a.most s.total).tr) a.at' a.up (shX (Desk.mk s.all a.d.out a.d.nR) a.at' a.up a.most s.total).q) i).to = _ ∧ (gD (addNow (pushAll (shX (Desk.mk s.all a.d.out a.d.nR) a.at' a.up a.most s.total).q s.all (shX (Desk.mk s.all a.d.out a.d.nR) a.at' a.up a.most s.total).tr) a.at' a.up (shX (Desk.mk s.all a.d.out a.d.nR) a.at' a.up a.most s.total).q) i).sp.lo = _ ∧ (gD (addNow (pushAll (shX (Desk.mk s.all a.d.out a.d.nR) a.at' a.up a.most s.total).q s.all (shX (Desk.mk s.all a.d.out a.d.nR) a.at' a.up a.most s.total).tr) a.at' a.up (shX (Desk.mk s.all a.d.out a.d.nR) a.at' a.up a.most s.total).q) i).sp.hi = _ ∧ (gD (addNow (pushAll (shX (Desk.mk s.all a.d.out a.d.nR) a.at' a.up a.most s.total).q s.all (shX (Desk.mk s.all a.d.out a.d.nR) a.at' a.up a.most s.total).tr) a.at' a.up (shX (Desk.mk s.all a.d.out a.d.nR) a.at' a.up a.most s.total).q) i).now = _
        rw [hpt _ _ i (pushAll_len _ _ _)]
        by_cases he : i = a.at'.toNat
        · subst he; simp only [decide_true, cond_true, if_true, hup]; exact ⟨rfl, rfl, rfl, rfl, rfl⟩
        · simp only [he, decide_false, cond_false, if_false]; exact ⟨rfl, rfl, rfl, rfl, rfl⟩
      · refine ⟨⟨hat', by omega, hat', by omega⟩, ⟨addNow (pushAll (shX (Desk.mk s.all a.d.out a.d.nR) a.at' a.up a.most s.total).q s.all (shX (Desk.mk s.all a.d.out a.d.nR) a.at' a.up a.most s.total).tr) a.at' a.up (shX (Desk.mk s.all a.d.out a.d.nR) a.at' a.up a.most s.total).q, wr (s.total + (shX (Desk.mk s.all a.d.out a.d.nR) a.at' a.up a.most s.total).q), k'⟩, ⟨rfl, hln, hln, fun i _ => ?_⟩, ⟨hln.trans h1, hok2, t4⟩, by show k' < s.k; omega⟩
        show (gD (addNow (pushAll (shX (Desk.mk s.all a.d.out a.d.nR) a.at' a.up a.most s.total).q s.all (shX (Desk.mk s.all a.d.out a.d.nR) a.at' a.up a.most s.total).tr) a.at' a.up (shX (Desk.mk s.all a.d.out a.d.nR) a.at' a.up a.most s.total).q) i).fr = _ ∧ (gD (addNow (pushAll (shX (Desk.mk s.all a.d.out a.d.nR) a.at' a.up a.most s.total).q s.all (shX (Desk.mk s.all a.d.out a.d.nR) a.at' a.up a.most s.total).tr) a.at' a.up (shX (Desk.mk s.all a.d.out a.d.nR) a.at' a.up a.most s.total).q) i).to = _ ∧ (gD (addNow (pushAll (shX (Desk.mk s.all a.d.out a.d.nR) a.at' a.up a.most s.total).q s.all (shX (Desk.mk s.all a.d.out a.d.nR) a.at' a.up a.most s.total).tr) a.at' a.up (shX (Desk.mk s.all a.d.out a.d.nR) a.at' a.up a.most s.total).q) i).sp.lo = _ ∧ (gD (addNow (pushAll (shX (Desk.mk s.all a.d.out a.d.nR) a.at' a.up a.most s.total).q s.all (shX (Desk.mk s.all a.d.out a.d.nR) a.at' a.up a.most s.total).tr) a.at' a.up (shX (Desk.mk s.all a.d.out a.d.nR) a.at' a.up a.most s.total).q) i).sp.hi = _ ∧ (gD (addNow (pushAll (shX (Desk.mk s.all a.d.out a.d.nR) a.at' a.up a.most s.total).q s.all (shX (Desk.mk s.all a.d.out a.d.nR) a.at' a.up a.most s.total).tr) a.at' a.up (shX (Desk.mk s.all a.d.out a.d.nR) a.at' a.up a.most s.total).q) i).now = _
        rw [hpt _ _ i (pushAll_len _ _ _)]
        by_cases he : i = a.at'.toNat
        · subst he; simp only [decide_true, cond_true, if_true, hup, Bool.false_eq_true, if_false]; exact ⟨rfl, rfl, rfl, rfl, rfl⟩
        · simp only [he, decide_false, cond_false, if_false]; exact ⟨rfl, rfl, rfl, rfl, rfl⟩
  · cases hk : s.k with
    | zero => rw [hk] at h3; cases h3
    | succ k =>
      rw [hk] at h3
      simp only [shiftM, if_neg hge] at h3
      cases h3
      exact ⟨rfl, rfl, rfl, rfl, rfl, fun _ _ => ⟨rfl, rfl, rfl, rfl, rfl⟩⟩
def d77 : List AVal → Heap → Option (SA × List (Nat × Nat) × List Nat)
  | [.bptr id _, .d (.v (.int _ q)), .d (.v (.bool up)), .d (.v (.int _ most))], H => match decDesk H id with
    | some (d, r) => some (⟨d, q, up, most⟩, [(100, id), (101, r)], [])
    | none => none
  | _, _ => none
theorem ok77 : SpecOk Try.prog 77 (C77.spec d77) := okC C77 (fun a => A77 a a.res) [] [] Try.func77 (fun _ => by kernel_rfl) (fun _ => gok_cons ok85 (gok_cons ok87 (gok_cons ok57f (gok_cons (ok97 _) gok_nil)))) (fun a h => p77 a h.1 h.2.1 h.2.2) (fun _ => noI rfl rfl) _
end Go.Bal
