/- Package balance: Reached. -/
import Derived.Test.YtonddbmhljelgaaBalN
set_option linter.unusedVariables false
set_option linter.unusedSimpArgs false
namespace Go.Bal
open Go Go.Sym Go.Proofs
structure NRF where
  N : NetL
  r : Int
  f : Int
def NRF.lacks (a : NRF) : Int := wr (a.f - (getW (setD a.N).all a.r).now)
def NRF.need (a : NRF) : Int := max a.lacks (wr (-a.lacks))
def NRF.sh (a : NRF) : Option (Desk × Int) := shiftV (setD a.N) a.r (decide (0 < a.lacks)) a.need
def NRF.res (a : NRF) : Desk × Int := a.sh.getD default
def reachE (a : NRF) : Int := if checkL a.N = 0 then if inM a.r 0 (a.N.r.length - 1) then if 0 < setC a.N then 6 else if inM a.f (-100000000) 100000000 then if a.res.2 = a.need then 0 else 5 else 5 else 2 else checkL a.N
def A38 : Ann := ann 71 [(44, s44), (62, s62), (73, C73.spec d67), (77, C77.spec d77), (56, C56.spec dDesk)]
def A38e : Ann := ann 71 [(44, s44), (62, s62), (73, C73b.spec d67)]
def xs38 (a : NRF) : List AVal := [.d (eNetL a.N), .int a.r, .int a.f]
def C38 : Ctr := { α := NRF, xs := xs38, L := fun _ => [], val := fun a => .tup [.d (eTruthL (truthM a.res.1)), .int 0], keep := fun _ => [], pre := fun a => [reachE a = 0, (settledV a.N).isSome = true, a.sh.isSome = true] }
def V38 (a : NRF) : Prop := fnVC Try.prog A38 Try.f38 (bodyOf Try.f38) (C38.xs a) (heapOf (C38.L a)) (C38.val a) (C38.keep a) [] [15016, 15017]
abbrev z38_0 (a : NRF) : Int := checkM (Net.mk a.N.g.length (fun (i : Nat) => gD a.N.g i) a.N.r.length fun (i : Nat) => gD a.N.r i)
abbrev z38_1 (a : NRF) : Prop := (truthM a.res.fst).f.length = (0 : Nat)
abbrev z38_2 (a : NRF) : Prop := (truthM a.res.fst).t.length = (0 : Nat)
abbrev z38_3 (a : NRF) : List Span := rng a.N.g.length fun (i : Nat) => gD a.N.g i
abbrev z38_4 (a : NRF) : Nat := (z38_3 a).length
abbrev z38_5 (a : NRF) (i : Nat) : Span := gD (z38_3 a) i
abbrev z38_6 (a : NRF) : List Reach := rng a.N.r.length fun (i : Nat) => gD a.N.r i
abbrev z38_7 (a : NRF) : Nat := (z38_6 a).length
abbrev z38_8 (a : NRF) (i : Nat) : Reach := gD (z38_6 a) i
abbrev z38_9 (a : NRF) (i : Nat) : Span := (z38_8 a i).sp
abbrev z38_10 (a : NRF) : NetL := NetL.mk (z38_3 a) (z38_6 a)
abbrev z38_11 (a : NRF) : Prop := z38_1 a ∧ z38_1 a ∧ z38_2 a ∧ z38_2 a ∧ Int.ofNat (0 : Nat) = Int.ofNat (5 : Nat)
abbrev z38_12 (a : NRF) : Prop := (0 : Int) ≤ a.r
abbrev z38_13 (a : NRF) : Desk := setD (z38_10 a)
abbrev z38_14 (a : NRF) : List Way := (z38_13 a).all
abbrev z38_15 (a : NRF) : Nat := (z38_14 a).length
abbrev z38_16 (a : NRF) : Nat := (0 : Nat) + a.r.toNat
abbrev z38_17 (a : NRF) : Int := IntKind.i64.wrap (a.f - (gD (z38_14 a) (z38_16 a)).now)
abbrev z38_18 (a : NRF) : Prop := z38_17 a > (0 : Int)
abbrev z38_19 (a : NRF) : Bool := decide (z38_18 a)
abbrev z38_20 (a : NRF) : Int := maxI (z38_17 a) (IntKind.i64.wrap ((0 : Int) - z38_17 a))
abbrev z38_21 : Prop := (0 : Nat) = (0 : Nat)
abbrev z38_22 (a : NRF) (i : Nat) : Way := gD (z38_14 a) i
abbrev z38_23 (a : NRF) : List Way := rng (z38_15 a) fun (i : Nat) => z38_22 a i
abbrev z38_24 (a : NRF) : Nat := (z38_23 a).length
abbrev z38_25 (a : NRF) : Prop := z38_24 a = z38_15 a
abbrev z38_26 (a : NRF) : Nat := (z38_13 a).out
abbrev z38_27 (a : NRF) : Nat := (z38_13 a).nR
abbrev z38_28 (a : NRF) (i : Nat) : Way := gD (z38_23 a) i
abbrev z38_29 (a : NRF) (i : Nat) : Span := (z38_28 a i).sp
abbrev z38_30 (a : NRF) (i : Nat) : Span := (z38_22 a i).sp
abbrev z38_31 (a : NRF) : Desk := Desk.mk (z38_23 a) (z38_26 a) (z38_27 a)
abbrev z38_32 (a : NRF) : Desk × Int := (SA.mk (z38_31 a) a.r (z38_19 a) (z38_20 a)).res
abbrev z38_33 (a : NRF) : Desk := (z38_32 a).fst
abbrev z38_34 (a : NRF) : List Way := (z38_33 a).all
abbrev z38_35 (a : NRF) : Nat := (z38_34 a).length
abbrev z38_36 (a : NRF) (i : Nat) : Way := gD (z38_34 a) i
abbrev z38_37 (a : NRF) : List Way := rng (z38_35 a) fun (i : Nat) => z38_36 a i
abbrev z38_38 (a : NRF) : Nat := (z38_37 a).length
abbrev z38_39 (a : NRF) : Prop := z38_38 a = z38_35 a
abbrev z38_40 (a : NRF) : Nat := (z38_33 a).out
abbrev z38_41 (a : NRF) : Prop := (↑(z38_40 a) : Int) = (↑(z38_40 a) : Int)
abbrev z38_42 (a : NRF) : Nat := (z38_33 a).nR
abbrev z38_43 (a : NRF) : Prop := (↑(z38_42 a) : Int) = (↑(z38_42 a) : Int)
abbrev z38_44 (a : NRF) : Desk := (SA.mk (z38_31 a) a.r (decide (z38_18 a)) (z38_20 a)).res.fst
abbrev z38_45 (a : NRF) : List Way := (z38_44 a).all
abbrev z38_46 (a : NRF) : Nat := (z38_45 a).length
abbrev z38_47 (a : NRF) : Nat := (rng (z38_46 a) fun (i : Nat) => gD (z38_45 a) i).length
abbrev z38_48 (a : NRF) (i : Nat) : Way := gD (z38_37 a) i
abbrev z38_49 (a : NRF) (i : Nat) : Int := (z38_48 a i).fr
abbrev z38_50 (a : NRF) (i : Nat) : Int := (z38_36 a i).fr
abbrev z38_51 (a : NRF) (i : Nat) : Int := (z38_48 a i).to
abbrev z38_52 (a : NRF) (i : Nat) : Int := (z38_36 a i).to
abbrev z38_53 (a : NRF) (i : Nat) : Span := (z38_48 a i).sp
abbrev z38_54 (a : NRF) (i : Nat) : Int := (z38_53 a i).lo
abbrev z38_55 (a : NRF) (i : Nat) : Span := (z38_36 a i).sp
abbrev z38_56 (a : NRF) (i : Nat) : Int := (z38_55 a i).lo
abbrev z38_57 (a : NRF) (i : Nat) : Int := (z38_53 a i).hi
abbrev z38_58 (a : NRF) (i : Nat) : Int := (z38_55 a i).hi
abbrev z38_59 (a : NRF) (i : Nat) : Int := (z38_48 a i).now
abbrev z38_60 (a : NRF) (i : Nat) : Int := (z38_36 a i).now
abbrev z38_61 (a : NRF) : Prop := z38_35 a = z38_38 a
abbrev z38_62 (a : NRF) : Nat := (z38_44 a).out
abbrev z38_63 (a : NRF) : Desk := (SA.mk (z38_31 a) a.r (decide (z38_18 a)) (z38_20 a)).res.fst
abbrev z38_64 (a : NRF) : List Way := (z38_63 a).all
abbrev z38_65 (a : NRF) : Nat := (z38_44 a).nR
abbrev z38_66 (a : NRF) : TruthL := truthM (Desk.mk (z38_37 a) (z38_40 a) (z38_42 a))
abbrev z38_67 (j : Nat) : Nat := (0 : Nat) + j
theorem vc38 (a : NRF) : (V38 a) = (((∀ (i : Nat), i < a.N.g.length → True) ∧ ∀ (i : Nat), i < a.N.r.length → True) ∧ bif bif z38_0 a == (0 : Int) then !inM a.r (0 : Int) (IntKind.i64.wrap ((↑a.N.r.length : Int) - (1 :
 Int))) else false then z38_1 a ∧ z38_1 a ∧ z38_2 a ∧ z38_2 a ∧ Int.ofNat (0 : Nat) = Int.ofNat (2 : Nat) else bif z38_0 a != (0 : Int) then z38_1 a ∧ z38_1 a ∧ z38_2 a ∧ z38_2 a ∧ (0 : Int) = z38_0 a else (z38_4 a =
 a.N.g.length ∧ (∀ (i : Nat), i < z38_4 a → (z38_5 a i).lo = (gD a.N.g i).lo ∧ (z38_5 a i).hi = (gD a.N.g i).hi) ∧ z38_7 a = a.N.r.length ∧ (∀ (i : Nat), i < z38_7 a → (z38_8 a i).fr = (gD a.N.r i).fr ∧ (z38_8 a i).to =
 (gD a.N.r i).to ∧ (z38_9 a i).lo = (gD a.N.r i).sp.lo ∧ (z38_9 a i).hi = (gD a.N.r i).sp.hi) ∧ checkL (z38_10 a) = (0 : Int) ∧ (settledV (z38_10 a)).isSome = true ∧ ((0 : Int) < setC (z38_10 a) → False)) ∧ bif !inM a.f
 (-100000000 : Int) (100000000 : Int) then z38_11 a else ((z38_12 a ∧ a.r < (↑(z38_15 a) : Int)) ∧ (z38_16 a).succ.le (z38_15 a)) ∧ (a.r = a.r ∧ z38_19 a = z38_19 a ∧ z38_20 a = z38_20 a ∧ z38_21 ∧ z38_25 a ∧ (↑(z38_26 a)
 : Int) = (↑(z38_26 a) : Int) ∧ (↑(z38_27 a) : Int) = (↑(z38_27 a) : Int) ∧ z38_25 a ∧ (∀ (i : Nat), i < z38_24 a → (z38_28 a i).fr = (z38_22 a i).fr ∧ (z38_28 a i).to = (z38_22 a i).to ∧ (z38_29 a i).lo = (z38_30 a i).lo
 ∧ (z38_29 a i).hi = (z38_30 a i).hi ∧ (z38_28 a i).now = (z38_22 a i).now) ∧ (z38_31 a).ok ∧ (z38_12 a ∧ a.r < (↑(z38_24 a) : Int)) ∧ (shiftV (z38_31 a) a.r (z38_19 a) (z38_20 a)).isSome = true) ∧ bif (z38_32 a).snd !=
 z38_20 a then z38_11 a else (z38_21 ∧ z38_39 a ∧ z38_41 a ∧ z38_43 a ∧ z38_39 a ∧ (∀ (i : Nat), i < z38_47 a → z38_49 a i = z38_50 a i ∧ z38_51 a i = z38_52 a i ∧ z38_54 a i = z38_56 a i ∧ z38_57 a i = z38_58 a i ∧
 z38_59 a i = z38_60 a i) ∧ z38_21 ∧ z38_61 a ∧ z38_41 a ∧ z38_43 a ∧ z38_61 a ∧ (∀ (i : Nat), i < z38_46 a → z38_50 a i = z38_49 a i ∧ z38_52 a i = z38_51 a i ∧ z38_56 a i = z38_54 a i ∧ z38_58 a i = z38_57 a i ∧ z38_60
 a i = z38_59 a i) ∧ ((1 : Nat) ≤ z38_62 a ∧ z38_47 a ≤ (1000 : Nat)) ∧ ((z38_63 a).nR + (z38_63 a).out).le (rng (z38_64 a).length fun (i : Nat) => gD (z38_64 a) i).length) ∧ (truthM a.res.fst).f.length = z38_42 a ∧ (0 :
 Nat) + z38_65 a ≤ z38_65 a ∧ (∀ (j : Nat), j < (truthM a.res.fst).f.length → gD (truthM a.res.fst).f j = gD (z38_66 a).f (z38_67 j)) ∧ (truthM a.res.fst).t.length = z38_40 a ∧ (0 : Nat) + z38_62 a ≤ z38_62 a ∧ (∀ (j :
 Nat), j < (truthM a.res.fst).t.length → gD (truthM a.res.fst).t j = gD (z38_66 a).t (z38_67 j)) ∧ Int.ofNat (0 : Nat) = Int.ofNat (0 : Nat)) := by kernel_rfl
def C38b : Ctr := { α := NRF, xs := xs38, L := fun _ => [], val := fun a => .tup [.d (eTruthL zT), .int (reachE a)], keep := fun _ => [], pre := fun a => [reachE a ≠ 0, checkL a.N = 0 → (settledV a.N).isSome = true, reachE a = 5 → inM a.f (-100000000) 100000000 = true → a.sh.isSome = true] }
def V38b (a : NRF) : Prop := fnVC Try.prog A38 Try.f38 (bodyOf Try.f38) (C38b.xs a) (heapOf (C38b.L a)) (C38b.val a) (C38b.keep a) [] []
abbrev z38b_0 (a : NRF) : Int := checkM (Net.mk a.N.g.length (fun (i : Nat) => gD a.N.g i) a.N.r.length fun (i : Nat) => gD a.N.r i)
abbrev z38b_1 : Prop := 0 = 0
abbrev z38b_2 (a : NRF) : List Span := rng a.N.g.length fun (i : Nat) => gD a.N.g i
abbrev z38b_3 (a : NRF) : Nat := (z38b_2 a).length
abbrev z38b_4 (a : NRF) (i : Nat) : Span := gD (z38b_2 a) i
abbrev z38b_5 (a : NRF) : List Reach := rng a.N.r.length fun (i : Nat) => gD a.N.r i
abbrev z38b_6 (a : NRF) : Nat := (z38b_5 a).length
abbrev z38b_7 (a : NRF) (i : Nat) : Reach := gD (z38b_5 a) i
abbrev z38b_8 (a : NRF) (i : Nat) : Span := (z38b_7 a i).sp
abbrev z38b_9 (a : NRF) : NetL := NetL.mk (z38b_2 a) (z38b_5 a)
abbrev z38b_10 (a : NRF) : Prop := z38b_1 ∧ z38b_1 ∧ z38b_1 ∧ z38b_1 ∧ reachE a = 5
abbrev z38b_11 (a : NRF) : Prop := 0 ≤ a.r
abbrev z38b_12 (a : NRF) : Desk := setD (z38b_9 a)
abbrev z38b_13 (a : NRF) : List Way := (z38b_12 a).all
abbrev z38b_14 (a : NRF) : Nat := (z38b_13 a).length
abbrev z38b_15 (a : NRF) : Nat := 0 + a.r.toNat
abbrev z38b_16 (a : NRF) : Int := IntKind.i64.wrap (a.f - (gD (z38b_13 a) (z38b_15 a)).now)
abbrev z38b_17 (a : NRF) : Prop := z38b_16 a > 0
abbrev z38b_18 (a : NRF) : Bool := decide (z38b_17 a)
abbrev z38b_19 (a : NRF) : Int := maxI (z38b_16 a) (IntKind.i64.wrap (0 - z38b_16 a))
abbrev z38b_20 (a : NRF) (i : Nat) : Way := gD (z38b_13 a) i
abbrev z38b_21 (a : NRF) : List Way := rng (z38b_14 a) fun (i : Nat) => z38b_20 a i
abbrev z38b_22 (a : NRF) : Nat := (z38b_21 a).length
abbrev z38b_23 (a : NRF) : Prop := z38b_22 a = z38b_14 a
abbrev z38b_24 (a : NRF) : Nat := (z38b_12 a).out
abbrev z38b_25 (a : NRF) : Nat := (z38b_12 a).nR
abbrev z38b_26 (a : NRF) (i : Nat) : Way := gD (z38b_21 a) i
abbrev z38b_27 (a : NRF) (i : Nat) : Span := (z38b_26 a i).sp
abbrev z38b_28 (a : NRF) (i : Nat) : Span := (z38b_20 a i).sp
abbrev z38b_29 (a : NRF) : Desk := Desk.mk (z38b_21 a) (z38b_24 a) (z38b_25 a)
abbrev z38b_30 (a : NRF) : Desk × Int := (SA.mk (z38b_29 a) a.r (z38b_18 a) (z38b_19 a)).res
abbrev z38b_31 (a : NRF) : Desk := (z38b_30 a).fst
abbrev z38b_32 (a : NRF) : List Way := (z38b_31 a).all
abbrev z38b_33 (a : NRF) : Nat := (z38b_32 a).length
abbrev z38b_34 (a : NRF) (i : Nat) : Way := gD (z38b_32 a) i
abbrev z38b_35 (a : NRF) : List Way := rng (z38b_33 a) fun (i : Nat) => z38b_34 a i
abbrev z38b_36 (a : NRF) : Nat := (z38b_35 a).length
abbrev z38b_37 (a : NRF) : Prop := z38b_36 a = z38b_33 a
abbrev z38b_38 (a : NRF) : Nat := (z38b_31 a).out
abbrev z38b_39 (a : NRF) : Prop := (↑(z38b_38 a) : Int) = (↑(z38b_38 a) : Int)
abbrev z38b_40 (a : NRF) : Nat := (z38b_31 a).nR
abbrev z38b_41 (a : NRF) : Prop := (↑(z38b_40 a) : Int) = (↑(z38b_40 a) : Int)
abbrev z38b_42 (a : NRF) : Desk := (SA.mk (z38b_29 a) a.r (decide (z38b_17 a)) (z38b_19 a)).res.fst
abbrev z38b_43 (a : NRF) : List Way := (z38b_42 a).all
abbrev z38b_44 (a : NRF) : Nat := (z38b_43 a).length
abbrev z38b_45 (a : NRF) : Nat := (rng (z38b_44 a) fun (i : Nat) => gD (z38b_43 a) i).length
abbrev z38b_46 (a : NRF) (i : Nat) : Way := gD (z38b_35 a) i
abbrev z38b_47 (a : NRF) (i : Nat) : Int := (z38b_46 a i).fr
abbrev z38b_48 (a : NRF) (i : Nat) : Int := (z38b_34 a i).fr
abbrev z38b_49 (a : NRF) (i : Nat) : Int := (z38b_46 a i).to
abbrev z38b_50 (a : NRF) (i : Nat) : Int := (z38b_34 a i).to
abbrev z38b_51 (a : NRF) (i : Nat) : Span := (z38b_46 a i).sp
abbrev z38b_52 (a : NRF) (i : Nat) : Int := (z38b_51 a i).lo
abbrev z38b_53 (a : NRF) (i : Nat) : Span := (z38b_34 a i).sp
abbrev z38b_54 (a : NRF) (i : Nat) : Int := (z38b_53 a i).lo
abbrev z38b_55 (a : NRF) (i : Nat) : Int := (z38b_51 a i).hi
abbrev z38b_56 (a : NRF) (i : Nat) : Int := (z38b_53 a i).hi
abbrev z38b_57 (a : NRF) (i : Nat) : Int := (z38b_46 a i).now
abbrev z38b_58 (a : NRF) (i : Nat) : Int := (z38b_34 a i).now
abbrev z38b_59 (a : NRF) : Prop := z38b_33 a = z38b_36 a
abbrev z38b_60 (a : NRF) : Desk := (SA.mk (z38b_29 a) a.r (decide (z38b_17 a)) (z38b_19 a)).res.fst
abbrev z38b_61 (a : NRF) : List Way := (z38b_60 a).all
theorem vc38b (a : NRF) : (V38b a) = (((∀ (i : Nat), i < a.N.g.length → True) ∧ ∀ (i : Nat), i < a.N.r.length → True) ∧ bif bif z38b_0 a == 0 then !inM a.r 0 (IntKind.i64.wrap ((↑a.N.r.length : Int) - 1)) else false then
 z38b_1 ∧ z38b_1 ∧ z38b_1 ∧ z38b_1 ∧ reachE a = 2 else bif z38b_0 a != 0 then z38b_1 ∧ z38b_1 ∧ z38b_1 ∧ z38b_1 ∧ reachE a = z38b_0 a else (z38b_3 a = a.N.g.length ∧ (∀ (i : Nat), i < z38b_3 a → (z38b_4 a i).lo = (gD
 a.N.g i).lo ∧ (z38b_4 a i).hi = (gD a.N.g i).hi) ∧ z38b_6 a = a.N.r.length ∧ (∀ (i : Nat), i < z38b_6 a → (z38b_7 a i).fr = (gD a.N.r i).fr ∧ (z38b_7 a i).to = (gD a.N.r i).to ∧ (z38b_8 a i).lo = (gD a.N.r i).sp.lo ∧
 (z38b_8 a i).hi = (gD a.N.r i).sp.hi) ∧ checkL (z38b_9 a) = 0 ∧ (settledV (z38b_9 a)).isSome = true ∧ (0 < setC (z38b_9 a) → False)) ∧ bif !inM a.f (-100000000) 100000000 then z38b_10 a else ((z38b_11 a ∧ a.r <
 (↑(z38b_14 a) : Int)) ∧ (z38b_15 a).succ.le (z38b_14 a)) ∧ (a.r = a.r ∧ z38b_18 a = z38b_18 a ∧ z38b_19 a = z38b_19 a ∧ z38b_1 ∧ z38b_23 a ∧ (↑(z38b_24 a) : Int) = (↑(z38b_24 a) : Int) ∧ (↑(z38b_25 a) : Int) = (↑(z38b_25
 a) : Int) ∧ z38b_23 a ∧ (∀ (i : Nat), i < z38b_22 a → (z38b_26 a i).fr = (z38b_20 a i).fr ∧ (z38b_26 a i).to = (z38b_20 a i).to ∧ (z38b_27 a i).lo = (z38b_28 a i).lo ∧ (z38b_27 a i).hi = (z38b_28 a i).hi ∧ (z38b_26 a
 i).now = (z38b_20 a i).now) ∧ (z38b_29 a).ok ∧ (z38b_11 a ∧ a.r < (↑(z38b_22 a) : Int)) ∧ (shiftV (z38b_29 a) a.r (z38b_18 a) (z38b_19 a)).isSome = true) ∧ bif (z38b_30 a).snd != z38b_19 a then z38b_10 a else (z38b_1 ∧
 z38b_37 a ∧ z38b_39 a ∧ z38b_41 a ∧ z38b_37 a ∧ (∀ (i : Nat), i < z38b_45 a → z38b_47 a i = z38b_48 a i ∧ z38b_49 a i = z38b_50 a i ∧ z38b_52 a i = z38b_54 a i ∧ z38b_55 a i = z38b_56 a i ∧ z38b_57 a i = z38b_58 a i) ∧
 z38b_1 ∧ z38b_59 a ∧ z38b_39 a ∧ z38b_41 a ∧ z38b_59 a ∧ (∀ (i : Nat), i < z38b_44 a → z38b_48 a i = z38b_47 a i ∧ z38b_50 a i = z38b_49 a i ∧ z38b_54 a i = z38b_52 a i ∧ z38b_56 a i = z38b_55 a i ∧ z38b_58 a i = z38b_57
 a i) ∧ (1 ≤ (z38b_42 a).out ∧ z38b_45 a ≤ 1000) ∧ ((z38b_60 a).nR + (z38b_60 a).out).le (rng (z38b_61 a).length fun (i : Nat) => gD (z38b_61 a) i).length) ∧ False) := by kernel_rfl
def V38e (a : NRF) : Prop := fnVC Try.prog A38e Try.f38 (bodyOf Try.f38) (C38b.xs a) (heapOf (C38b.L a)) (C38b.val a) (C38b.keep a) [] []
theorem vc38e (a : NRF) : (V38e a) = (((∀ (i : Nat), i < a.N.g.length → True) ∧ ∀ (i : Nat), i < a.N.r.length → True) ∧ bif bif checkM (Net.mk a.N.g.length (fun (i : Nat) => gD a.N.g i) a.N.r.length fun (i : Nat) => gD
 a.N.r i) == 0 then !inM a.r 0 (IntKind.i64.wrap ((↑a.N.r.length : Int) - 1)) else false then 0 = 0 ∧ 0 = 0 ∧ 0 = 0 ∧ 0 = 0 ∧ reachE a = 2 else bif checkM (Net.mk a.N.g.length (fun (i : Nat) => gD a.N.g i) a.N.r.length
 fun (i : Nat) => gD a.N.r i) != 0 then 0 = 0 ∧ 0 = 0 ∧ 0 = 0 ∧ 0 = 0 ∧ reachE a = checkM (Net.mk a.N.g.length (fun (i : Nat) => gD a.N.g i) a.N.r.length fun (i : Nat) => gD a.N.r i) else ((rng a.N.g.length fun (i : Nat)
 => gD a.N.g i).length = a.N.g.length ∧ (∀ (i : Nat), i < (rng a.N.g.length fun (i : Nat) => gD a.N.g i).length → (gD (rng a.N.g.length fun (i : Nat) => gD a.N.g i) i).lo = (gD a.N.g i).lo ∧ (gD (rng a.N.g.length fun (i :
 Nat) => gD a.N.g i) i).hi = (gD a.N.g i).hi) ∧ (rng a.N.r.length fun (i : Nat) => gD a.N.r i).length = a.N.r.length ∧ (∀ (i : Nat), i < (rng a.N.r.length fun (i : Nat) => gD a.N.r i).length → (gD (rng a.N.r.length fun (i
 : Nat) => gD a.N.r i) i).fr = (gD a.N.r i).fr ∧ (gD (rng a.N.r.length fun (i : Nat) => gD a.N.r i) i).to = (gD a.N.r i).to ∧ (gD (rng a.N.r.length fun (i : Nat) => gD a.N.r i) i).sp.lo = (gD a.N.r i).sp.lo ∧ (gD (rng
 a.N.r.length fun (i : Nat) => gD a.N.r i) i).sp.hi = (gD a.N.r i).sp.hi) ∧ fitE (NetL.mk (rng a.N.g.length fun (i : Nat) => gD a.N.g i) (rng a.N.r.length fun (i : Nat) => gD a.N.r i)) ≠ 0 ∧ (checkL (NetL.mk (rng
 a.N.g.length fun (i : Nat) => gD a.N.g i) (rng a.N.r.length fun (i : Nat) => gD a.N.r i)) = 0 → (settledV (NetL.mk (rng a.N.g.length fun (i : Nat) => gD a.N.g i) (rng a.N.r.length fun (i : Nat) => gD a.N.r i))).isSome =
 true)) ∧ bif fitE (NetL.mk (rng a.N.g.length fun (i : Nat) => gD a.N.g i) (rng a.N.r.length fun (i : Nat) => gD a.N.r i)) != 0 then 0 = 0 ∧ 0 = 0 ∧ 0 = 0 ∧ 0 = 0 ∧ reachE a = fitE (NetL.mk (rng a.N.g.length fun (i : Nat)
 => gD a.N.g i) (rng a.N.r.length fun (i : Nat) => gD a.N.r i)) else bif !inM a.f (-100000000) 100000000 then 0 = 0 ∧ 0 = 0 ∧ 0 = 0 ∧ 0 = 0 ∧ reachE a = 5 else False) := by kernel_rfl
theorem net_check' (N : NetL) : checkM (Net.mk N.g.length (fun (i : Nat) => gD N.g i) N.r.length (fun (i : Nat) => gD N.r i)) = checkL N := rfl
theorem in_last (r : Int) {n : Nat} (h : n ≤ 1000000) : inM r 0 (wr ((n : Int) - 1)) = inM r 0 ((n : Int) - 1) := by rw [wr_id (n := (n : Int) - 1) (by omega) (by omega)]
theorem reachE_ok {a : NRF} (h : reachE a = 0) : checkL a.N = 0 ∧ inM a.r 0 (a.N.r.length - 1) = true ∧ ¬ 0 < setC a.N ∧ inM a.f (-100000000) 100000000 = true ∧ a.res.2 = a.need := by
  unfold reachE at h
  by_cases h1 : checkL a.N = 0
  · rw [if_pos h1] at h
    by_cases h2 : inM a.r 0 (a.N.r.length - 1) = true
    · rw [if_pos h2] at h
      by_cases h3 : 0 < setC a.N
      · rw [if_pos h3] at h; cases h
      · rw [if_neg h3] at h
        by_cases h4 : inM a.f (-100000000) 100000000 = true
        · rw [if_pos h4] at h
          by_cases h5 : a.res.2 = a.need
          · exact ⟨h1, h2, h3, h4, h5⟩
          · rw [if_neg h5] at h; cases h
        · rw [if_neg h4] at h; cases h
    · rw [if_neg h2] at h; cases h
  · rw [if_neg h1] at h; exact absurd h h1
theorem p38 (a : NRF) (h1 : reachE a = 0) (h2 : (settledV a.N).isSome = true) (h3 : a.sh.isSome = true) : V38 a := by
  obtain ⟨c1, c2, c3, c4, c5⟩ := reachE_ok h1
  obtain ⟨l1, l2, l3⟩ := set_len h2
  have hg := good_of c1
  have g1 := hg.g1
  have g8 := hg.g8
  have r14 := hg.r14
  have hin := inM_iff.1 c2
  have hr : 0 ≤ a.r ∧ a.r < (setD a.N).all.length := by omega
  have hrn : a.r.toNat < (setD a.N).all.length := by omega
  have hw := in_last a.r (n := a.N.r.length) (by omega)
  obtain ⟨x, hx⟩ := Option.isSome_iff_exists.1 h3
  have hres : a.res = x := by unfold NRF.res; rw [hx]; rfl
  have hlen : a.res.1.all.length = (setD a.N).all.length ∧ a.res.1.out = (setD a.N).out ∧ a.res.1.nR = (setD a.N).nR := by
    rw [hres]; exact shiftM_len (t' := x.2) hx
  rw [vc38]; delta z38_0 z38_1 z38_2 z38_3 z38_4 z38_5 z38_6 z38_7 z38_8 z38_9 z38_10 z38_11 z38_12 z38_13 z38_14 z38_15 z38_16 z38_17 z38_18 z38_19 z38_20 z38_21 z38_22 z38_23 z38_24 z38_25 z38_26 z38_27 z38_28 z38_29 z38_30 z38_31 z38_32 z38_33 z38_34 z38_35 z38_36 z38_37 z38_38 z38_39 z38_40 z38_41 z38_42 z38_43 z38_44 z38_45 z38_46 z38_47 z38_48 z38_49 z38_50 z38_51 z38_52 z38_53 z38_54 z38_55 z38_56 z38_57 z38_58 z38_59 z38_60 z38_61 z38_62 z38_63 z38_64 z38_65 z38_66 z38_67; simp only [condP, eq_self, implies_true, and_self, true_and, and_true, true_implies, forall_const, decide_eq_true_eq, decide_eq_false_iff_not, Int.toNat_natCast, dSpan_eSpan, dReach_eReach, dWay_eWay, dStep_eStep, dFar_eFar, dInt_eInt, Nat.zero_add, Int.zero_sub, Nat.le_eq, Nat.succ_eq_add_one, Nat.add_one_le_iff, Bool.not_eq_true', Bool.not_eq_false', rng_length, dSpan_mk, dReach_mk, dWay_mk, dStep_mk, dFar_mk, rng_getD, DL.d6, DL.d7, DL.d8, maxI_eq]
  have e1 : IntKind.i64.wrap (a.f - (gD (setD a.N).all a.r.toNat).now) = a.lacks := rfl
  simp only [e1]
  have e2 : max a.lacks (IntKind.i64.wrap (-a.lacks)) = a.need := rfl
  simp only [e2]
  have e3 : (SA.mk (setD a.N) a.r (decide (a.lacks > 0)) a.need).res = a.res := rfl
  have e4 : shiftV (setD a.N) a.r (decide (a.lacks > 0)) a.need = a.sh := rfl
  simp only [e3, e4, net_check', c1, c4, c5, hlen, l1, l2, l3, truth_fl, truth_tl]
  have hw' : inM a.r 0 (IntKind.i64.wrap ((a.N.r.length : Int) - 1)) = true := hw.trans c2
  simp only [hw', BEq.rfl, cond_true, Bool.not_true, Bool.false_eq_true, false_implies, true_and, bne_self_eq_false, reduceCtorEq, true_implies, h2, h3, l1, l2, l3, hr, hrn, and_true]
  exact ⟨c3, ⟨by omega, by omega⟩, ⟨setD_ok c1 h2, by omega⟩, ⟨⟨by omega, by omega⟩, Nat.le_refl _⟩, Nat.le_refl _, fun _ _ => trivial, Nat.le_refl _, fun _ _ => trivial⟩
theorem reachE_in {a : NRF} (hc : checkL a.N = 0) (hl : a.N.r.length ≤ 14) : ((bif checkL a.N == 0 then !inM a.r 0 (IntKind.i64.wrap ((a.N.r.length : Int) - 1)) else false) = !inM a.r 0 ((a.N.r.length : Int) - 1)) := by
  have hw := in_last a.r (n := a.N.r.length) (by omega)
  have hw : inM a.r 0 (IntKind.i64.wrap ((a.N.r.length : Int) - 1)) = _ := hw
  rw [hw, hc]; rfl
theorem p38b (a : NRF) (h1 : reachE a ≠ 0) (h2 : checkL a.N = 0 → (settledV a.N).isSome = true) (h3 : checkL a.N = 0 → inM a.r 0 (a.N.r.length - 1) = true → ¬ 0 < setC a.N → inM a.f (-100000000) 100000000 = true → a.sh.isSome = true) (h6 : ¬ 0 < setC a.N) : V38b a := by
  rw [vc38b]; delta z38b_0 z38b_1 z38b_2 z38b_3 z38b_4 z38b_5 z38b_6 z38b_7 z38b_8 z38b_9 z38b_10 z38b_11 z38b_12 z38b_13 z38b_14 z38b_15 z38b_16 z38b_17 z38b_18 z38b_19 z38b_20 z38b_21 z38b_22 z38b_23 z38b_24 z38b_25 z38b_26 z38b_27 z38b_28 z38b_29 z38b_30 z38b_31 z38b_32 z38b_33 z38b_34 z38b_35 z38b_36 z38b_37 z38b_38 z38b_39 z38b_40 z38b_41 z38b_42 z38b_43 z38b_44 z38b_45 z38b_46 z38b_47 z38b_48 z38b_49 z38b_50 z38b_51 z38b_52 z38b_53 z38b_54 z38b_55 z38b_56 z38b_57 z38b_58 z38b_59 z38b_60 z38b_61; simp only [condP, eq_self, implies_true, and_self, true_and, and_true, true_implies, forall_const, decide_eq_true_eq, decide_eq_false_iff_not, Int.toNat_natCast, dSpan_eSpan, dReach_eReach, dWay_eWay, dStep_eStep, dFar_eFar, dInt_eInt, Nat.zero_add, Int.zero_sub, Nat.le_eq, Nat.succ_eq_add_one, Nat.add_one_le_iff, Bool.not_eq_true', Bool.not_eq_false', rng_length, dSpan_mk, dReach_mk, dWay_mk, dStep_mk, dFar_mk, rng_getD, DL.d6, DL.d7, DL.d8, maxI_eq]
  have e1 : IntKind.i64.wrap (a.f - (gD (setD a.N).all a.r.toNat).now) = a.lacks := rfl
  simp only [e1]
  have e2 : max a.lacks (IntKind.i64.wrap (-a.lacks)) = a.need := rfl
  simp only [e2]
  have e3 : (SA.mk (setD a.N) a.r (decide (a.lacks > 0)) a.need).res = a.res := rfl
  have e4 : shiftV (setD a.N) a.r (decide (a.lacks > 0)) a.need = a.sh := rfl
  simp only [e3, e4, net_check']
  by_cases hc : checkL a.N = 0
  · have hg := good_of hc
    have g1 := hg.g1
    have g8 := hg.g8
    have r14 := hg.r14
    obtain ⟨l1, l2, l3⟩ := set_len (h2 hc)
    rw [reachE_in hc r14]
    refine ⟨fun hb => ?_, fun hb => ⟨fun hn => absurd hc (by simpa using hn), fun _ => ⟨⟨hc, h2 hc, h6⟩, fun hf => ?_, fun hf => ?_⟩⟩⟩
    · have hb : inM a.r 0 (a.N.r.length - 1) = false := by simpa using hb
      unfold reachE; rw [if_pos hc, hb]; rfl
    all_goals have hb : inM a.r 0 (a.N.r.length - 1) = true := by simpa using hb
    · unfold reachE; rw [if_pos hc, if_pos hb, if_neg h6, hf]; rfl
    · have hin := inM_iff.1 hb
      have hr : 0 ≤ a.r ∧ a.r < (setD a.N).all.length := by omega
      have hs := h3 hc hb h6 hf
      refine ⟨⟨hr, by omega⟩, ⟨setD_ok hc (h2 hc), hr, hs⟩, fun hne => ?_, fun he => ?_⟩
      · have hne : ¬ a.res.2 = a.need := by simpa using hne
        unfold reachE; rw [if_pos hc, if_pos hb, if_neg h6, if_pos hf, if_neg hne]
      · have he : a.res.2 = a.need := by simpa using he
        exact absurd (by unfold reachE; rw [if_pos hc, if_pos hb, if_neg h6, if_pos hf, if_pos he]) h1
  · have hb : (checkL a.N == 0) = false := by simpa using hc
    have hb2 : (checkL a.N != 0) = true := by simpa using hc
    rw [hb, hb2]
    refine ⟨fun h => (by cases h), fun _ => ⟨fun _ => (by unfold reachE; rw [if_neg hc]), fun h => (by cases h)⟩⟩
theorem p38e (a : NRF) (h1 : reachE a ≠ 0) (h2 : checkL a.N = 0 → (settledV a.N).isSome = true) (h6 : 0 < setC a.N) : V38e a := by
  rw [vc38e]; simp only [condP, eq_self, implies_true, and_self, true_and, and_true, true_implies, forall_const, decide_eq_true_eq, decide_eq_false_iff_not, Int.toNat_natCast, dSpan_eSpan, dReach_eReach, dWay_eWay, dStep_eStep, dFar_eFar, dInt_eInt, Nat.zero_add, Int.zero_sub, Nat.le_eq, Nat.succ_eq_add_one, Nat.add_one_le_iff, Bool.not_eq_true', Bool.not_eq_false', rng_length, dSpan_mk, dReach_mk, dWay_mk, dStep_mk, dFar_mk, rng_getD, DL.d6, DL.d7, DL.d8, net_check']
  by_cases hc : checkL a.N = 0
  · have hg := good_of hc
    have r14 := hg.r14
    have hf : fitE a.N = 6 := by unfold fitE; rw [if_pos hc, if_pos h6]
    rw [reachE_in hc r14, hf]
    refine ⟨fun hb => ?_, fun hb => ⟨fun hn => absurd hc (by simpa using hn), fun _ => ⟨⟨by decide, h2⟩, fun _ => ?_, fun h => absurd h (by decide)⟩⟩⟩
    · have hb : inM a.r 0 (a.N.r.length - 1) = false := by simpa using hb
      unfold reachE; rw [if_pos hc, hb]; rfl
    · have hb : inM a.r 0 (a.N.r.length - 1) = true := by simpa using hb
      unfold reachE; rw [if_pos hc, if_pos hb, if_pos h6]
  · have hb : (checkL a.N == 0) = false := by simpa using hc
    have hb2 : (checkL a.N != 0) = true := by simpa using hc
    rw [hb, hb2]
    refine ⟨fun h => (by cases h), fun _ => ⟨fun _ => (by unfold reachE; rw [if_neg hc]), fun h => (by cases h)⟩⟩
end Go.Bal
