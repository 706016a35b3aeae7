/- Package chart: every pair. Printed by gench2.py. -/
import Derived.Test.YtdbjalgfomknhaaChG2
set_option linter.unusedVariables false
set_option linter.unusedSimpArgs false
namespace Go.Bal
open Go Go.Sym Go.Proofs
def LXPp (q : Dk) : List (Nat × AObj) := [(101, dkB q 102), (102, dkM q)]
def KXPp (q : Dk) : List (Nat × HCell) := [(101, .live (dkB q 102)), (102, .live (dkM q))]
def fvPp (q : Dk) : AVal := .fn (.func n_pair) [.bptr 101 0] []
def BPp (q : Dk) : AObj := .box [fvPp q]
structure EPp where
 q : Dk
 e : Pr
structure MPp where
 q : Dk
 l : List Pr
def C1Pp : Ctr := { ro := [100, 101, 102], α := EPp, xs := λ a => [.d (ePr a.e), .bptr 100 0], L := λ a => (100, BPp a.q) :: LXPp a.q, val := λ a => .bool (!pairM a.q.c a.e), keep := λ a => (100, .live (BPp a.q)) :: KXPp a.q, pre := λ a => [a.q.c.ns.length < 1073741824 /\ True] }
def d1Pp : List AVal -> Heap -> Option (EPp × List (Nat × Nat) × List Nat)
 | [.d d, .bptr id _], H => match H id with
  | .live (.box [.fn _ [.bptr j _] _]) => match decDk H j with
   | some (q, m) => some (⟨q, dPr d⟩, [(100, id), (101, j), (102, m)], [])
   | none => none
  | _ => none
 | _, _ => none
def A1Pp : Ann := { ann 8 [(n_pair, C_pair.spec dDkP)] with E := [100, 101, 102] }
def V1Pp (a : EPp) : Prop := fnVC Try.prog A1Pp F_eP1 (bodyOf F_eP1) (C1Pp.xs a) (heapOf (C1Pp.L a)) (C1Pp.val a) (C1Pp.keep a) [] []
abbrev z1Pp_0 (a : EPp) : Prop := a.q.c.p.lo = a.q.c.p.lo
abbrev z1Pp_1 (a : EPp) : Prop := a.q.c.p.hi = a.q.c.p.hi
abbrev z1Pp_2 (a : EPp) : Prop := a.q.c.base = a.q.c.base
abbrev z1Pp_3 (a : EPp) : Prop := a.q.c.scale = a.q.c.scale
abbrev z1Pp_4 (a : EPp) : Prop := a.q.c.off = a.q.c.off
abbrev z1Pp_5 (a : EPp) : List Mk := rng a.q.c.ms.length λ (i : Nat) => gD a.q.c.ms i
abbrev z1Pp_6 (a : EPp) : Nat := (z1Pp_5 a).length
abbrev z1Pp_7 (a : EPp) (i : Nat) : Mk := gD (z1Pp_5 a) i
abbrev z1Pp_8 (a : EPp) (i : Nat) : Int := (z1Pp_7 a i).pl
abbrev z1Pp_9 (a : EPp) (i : Nat) : Int := (z1Pp_7 a i).ht
abbrev z1Pp_10 (a : EPp) : List Nt := rng a.q.c.ns.length λ (i : Nat) => gD a.q.c.ns i
abbrev z1Pp_11 (a : EPp) : Nat := (z1Pp_10 a).length
abbrev z1Pp_12 (a : EPp) (i : Nat) : Nt := gD (z1Pp_10 a) i
abbrev z1Pp_13 (a : EPp) (i : Nat) : Int := (z1Pp_12 a i).mi
abbrev z1Pp_14 (a : EPp) (i : Nat) : Span := (z1Pp_12 a i).t
abbrev z1Pp_15 (a : EPp) (i : Nat) : Int := (z1Pp_14 a i).lo
abbrev z1Pp_16 (a : EPp) (i : Nat) : Int := (gD a.q.c.ns i).t.lo
abbrev z1Pp_17 (a : EPp) (i : Nat) : Int := (z1Pp_14 a i).hi
abbrev z1Pp_18 (a : EPp) (i : Nat) : Int := (gD a.q.c.ns i).t.hi
abbrev z1Pp_19 (a : EPp) (i : Nat) : Span := (z1Pp_12 a i).s
abbrev z1Pp_20 (a : EPp) (i : Nat) : Int := (z1Pp_19 a i).lo
abbrev z1Pp_21 (a : EPp) (i : Nat) : Int := (gD a.q.c.ns i).s.lo
abbrev z1Pp_22 (a : EPp) (i : Nat) : Int := (z1Pp_19 a i).hi
abbrev z1Pp_23 (a : EPp) (i : Nat) : Int := (gD a.q.c.ns i).s.hi
abbrev z1Pp_24 (a : EPp) : Prop := ∀ (i : Nat), i < 40 -> a.q.sp i = a.q.sp i
abbrev z1Pp_25 (a : EPp) (n : Int) : Bool := hasN (z1Pp_10 a) n
abbrev z1Pp_26 (a : EPp) : Prop := ∀ (n : Int), a.q.st n = a.q.st n
abbrev z1Pp_27 (a : EPp) (n : Int) : Nt := ntOf (z1Pp_10 a) n
abbrev z1Pp_28 (a : EPp) (n : Int) : Int := (z1Pp_27 a n).mi
abbrev z1Pp_29 (a : EPp) (n : Int) : Span := (z1Pp_27 a n).t
abbrev z1Pp_30 (a : EPp) (n : Int) : Int := (z1Pp_29 a n).lo
abbrev z1Pp_31 (a : EPp) (n : Int) : Int := (z1Pp_29 a n).hi
abbrev z1Pp_32 (a : EPp) (n : Int) : Span := (z1Pp_27 a n).s
abbrev z1Pp_33 (a : EPp) (n : Int) : Int := (z1Pp_32 a n).lo
abbrev z1Pp_34 (a : EPp) (n : Int) : Int := (z1Pp_32 a n).hi
abbrev z1Pp_35 (i : Nat) (a : EPp) : Prop := i < a.q.c.ms.length
abbrev z1Pp_36 (i : Nat) (a : EPp) : Prop := i < a.q.c.ns.length
theorem vc1Pp (a : EPp) : (V1Pp a) = ((a.e.a = a.e.a /\ a.e.b = a.e.b /\ z1Pp_0 a /\ z1Pp_1 a /\ z1Pp_2 a /\ z1Pp_3 a /\ z1Pp_4 a /\ z1Pp_6 a = a.q.c.ms.length /\ (∀ (i : Nat), i < z1Pp_6 a -> z1Pp_8 a i = (gD a.q.c.ms i).pl /\
 z1Pp_9 a i = (gD a.q.c.ms i).ht) /\ z1Pp_11 a = a.q.c.ns.length /\ (∀ (i : Nat), i < z1Pp_11 a -> z1Pp_13 a i = (gD a.q.c.ns i).mi /\ z1Pp_15 a i = z1Pp_16 a i /\ z1Pp_17 a i = z1Pp_18 a i /\ z1Pp_20 a i = z1Pp_21 a i /\
 z1Pp_22 a i = z1Pp_23 a i) /\ z1Pp_24 a /\ zNt = zNt /\ (∀ (n : Int), z1Pp_25 a n = hasN a.q.c.ns n) /\ z1Pp_26 a /\ (∀ (n : Int), z1Pp_28 a n = (ntOf a.q.c.ns n).mi /\ z1Pp_30 a n = (ntOf a.q.c.ns n).t.lo /\ z1Pp_31 a n =
 (ntOf a.q.c.ns n).t.hi /\ z1Pp_33 a n = (ntOf a.q.c.ns n).s.lo /\ z1Pp_34 a n = (ntOf a.q.c.ns n).s.hi) /\ z1Pp_0 a /\ z1Pp_1 a /\ z1Pp_2 a /\ z1Pp_3 a /\ z1Pp_4 a /\ a.q.c.ms.length = z1Pp_6 a /\ (∀ (i : Nat), z1Pp_35 i a -> (gD
 a.q.c.ms i).pl = z1Pp_8 a i /\ (gD a.q.c.ms i).ht = z1Pp_9 a i) /\ a.q.c.ns.length = z1Pp_11 a /\ (∀ (i : Nat), z1Pp_36 i a -> (gD a.q.c.ns i).mi = z1Pp_13 a i /\ z1Pp_16 a i = z1Pp_15 a i /\ z1Pp_18 a i = z1Pp_17 a i /\
 z1Pp_21 a i = z1Pp_20 a i /\ z1Pp_23 a i = z1Pp_22 a i) /\ z1Pp_24 a /\ zNt = zNt /\ (∀ (n : Int), hasN a.q.c.ns n = z1Pp_25 a n) /\ z1Pp_26 a /\ (∀ (n : Int), (ntOf a.q.c.ns n).mi = z1Pp_28 a n /\ (ntOf a.q.c.ns n).t.lo =
 z1Pp_30 a n /\ (ntOf a.q.c.ns n).t.hi = z1Pp_31 a n /\ (ntOf a.q.c.ns n).s.lo = z1Pp_33 a n /\ (ntOf a.q.c.ns n).s.hi = z1Pp_34 a n) /\ z1Pp_11 a < 1073741824 /\ True) /\ (!pairM a.q.c a.e) = !pairM (Cht.mk a.q.c.p a.q.c.base
 a.q.c.scale a.q.c.off (z1Pp_5 a) (z1Pp_10 a)) a.e /\ z1Pp_0 a /\ z1Pp_1 a /\ z1Pp_2 a /\ z1Pp_3 a /\ z1Pp_4 a /\ a.q.c.ms.length = a.q.c.ms.length /\ (∀ (i : Nat), z1Pp_35 i a -> (gD a.q.c.ms i).pl = (gD a.q.c.ms i).pl /\ (gD
 a.q.c.ms i).ht = (gD a.q.c.ms i).ht) /\ a.q.c.ns.length = a.q.c.ns.length /\ (∀ (i : Nat), z1Pp_36 i a -> (gD a.q.c.ns i).mi = (gD a.q.c.ns i).mi /\ z1Pp_16 a i = z1Pp_16 a i /\ z1Pp_18 a i = z1Pp_18 a i /\ z1Pp_21 a i =
 z1Pp_21 a i /\ z1Pp_23 a i = z1Pp_23 a i) /\ z1Pp_24 a /\ zNt = zNt /\ (∀ (n : Int), hasN a.q.c.ns n = hasN a.q.c.ns n) /\ z1Pp_26 a /\ ∀ (n : Int), (ntOf a.q.c.ns n).mi = (ntOf a.q.c.ns n).mi /\ (ntOf a.q.c.ns n).t.lo = (ntOf
 a.q.c.ns n).t.lo /\ (ntOf a.q.c.ns n).t.hi = (ntOf a.q.c.ns n).t.hi /\ (ntOf a.q.c.ns n).s.lo = (ntOf a.q.c.ns n).s.lo /\ (ntOf a.q.c.ns n).s.hi = (ntOf a.q.c.ns n).s.hi) := by kernel_rfl
theorem ok1Pp : SpecOk Try.prog n_eP1 (C1Pp.spec d1Pp) := okC C1Pp (λ _ => A1Pp) [] [] fn_eP1 (λ _ => by kernel_rfl) (λ _ => gok_cons ok_pair gok_nil) (λ (a : EPp) h => by
 have h : a.q.c.ns.length < 1073741824 := (show a.q.c.ns.length < 1073741824 /\ True from h).1
 show V1Pp a; rw [vc1Pp]; delta z1Pp_0 z1Pp_1 z1Pp_2 z1Pp_3 z1Pp_4 z1Pp_5 z1Pp_6 z1Pp_7 z1Pp_8 z1Pp_9 z1Pp_10 z1Pp_11 z1Pp_12 z1Pp_13 z1Pp_14 z1Pp_15 z1Pp_16 z1Pp_17 z1Pp_18 z1Pp_19 z1Pp_20 z1Pp_21 z1Pp_22 z1Pp_23 z1Pp_24 z1Pp_25 z1Pp_26 z1Pp_27 z1Pp_28 z1Pp_29 z1Pp_30 z1Pp_31 z1Pp_32 z1Pp_33 z1Pp_34 z1Pp_35 z1Pp_36; simp [wr, rng_getD, h, cht_eta]) (λ _ => noI rfl rfl) _
def d2Pp : List AVal -> Heap -> Option (MPp × List (Nat × Nat) × List Nat)
 | [y, .fn _ _ [.bptr id _]], H => match dRow y H with
  | some (n, g, f) => match H id with
   | .live (.box [.fn _ [.bptr j _] _]) => match decDk H j with
    | some (q, m) => some (⟨q, rng n λ i => dPr (g i)⟩, [(100, id), (101, j), (102, m)], f)
    | none => none
   | _ => none
  | none => none
 | _, _ => none
def A2Pp (a : MPp) : Ann := { ann 19 [(n_eP1, C1Pp.spec d1Pp)] with E := [100, 101, 102], loops := λ id => if id = 2 then some [{ α := Nat, dflt := 0, T := λ k => ⟨[(0, .d (ePrs a.l)), (1, .fn (.func n_eP1) [] [.bptr 100 0]), (7, .int a.l.length), (8, .int k)], (100, .live (BPp a.q)) :: KXPp a.q⟩, inv := λ k => k <= a.l.length /\ idx (λ i => !pairM a.q.c (gD a.l i)) a.l.length 0 = idx (λ i => !pairM a.q.c (gD a.l i)) (a.l.length - k) k, meas := λ k => a.l.length - k }] else none }
def PPp (a : MPp) : List Prop := [a.l.length < 4611686018427387904 /\ a.q.c.ns.length < 1073741824]
def C2Pp : Ctr := { ro := [100, 101, 102], α := MPp, xs := λ a => [.d (ePrs a.l), .fn (.func n_eP1) [] [.bptr 100 0]], L := λ a => (100, BPp a.q) :: LXPp a.q, val := λ a => .int (idx (λ i => !pairM a.q.c (gD a.l i)) a.l.length 0), keep := λ a => (100, .live (BPp a.q)) :: KXPp a.q, pre := PPp }
def V2Pp (a : MPp) : Prop := fnVC Try.prog (A2Pp a) F_ifP (bodyOf F_ifP) (C2Pp.xs a) (heapOf (C2Pp.L a)) (C2Pp.val a) (C2Pp.keep a) [] []
abbrev z2Pp_0 (a : MPp) : Prop := a.l.length = a.l.length
abbrev z2Pp_1 (a : MPp) (i : Nat) : Prop := (gD a.l i).a = (gD a.l i).a
abbrev z2Pp_2 (a : MPp) (i : Nat) : Prop := (gD a.l i).b = (gD a.l i).b
abbrev z2Pp_3 (a : MPp) : Prop := ∀ (i : Nat), i < a.l.length -> z2Pp_1 a i /\ z2Pp_2 a i
abbrev z2Pp_4 (a : MPp) : Prop := (↑a.l.length : Int) = (↑a.l.length : Int)
abbrev z2Pp_5 (a : MPp) : Prop := a.q.c.p.lo = a.q.c.p.lo
abbrev z2Pp_6 (a : MPp) : Prop := a.q.c.p.hi = a.q.c.p.hi
abbrev z2Pp_7 (a : MPp) : Prop := a.q.c.base = a.q.c.base
abbrev z2Pp_8 (a : MPp) : Prop := a.q.c.scale = a.q.c.scale
abbrev z2Pp_9 (a : MPp) : Prop := a.q.c.off = a.q.c.off
abbrev z2Pp_10 (i : Nat) (a : MPp) : Prop := i < a.q.c.ms.length
abbrev z2Pp_11 (i : Nat) (a : MPp) : Prop := i < a.q.c.ns.length
abbrev z2Pp_12 (a : MPp) (i : Nat) : Int := (gD a.q.c.ns i).t.lo
abbrev z2Pp_13 (a : MPp) (i : Nat) : Int := (gD a.q.c.ns i).t.hi
abbrev z2Pp_14 (a : MPp) (i : Nat) : Int := (gD a.q.c.ns i).s.lo
abbrev z2Pp_15 (a : MPp) (i : Nat) : Int := (gD a.q.c.ns i).s.hi
abbrev z2Pp_16 (a : MPp) : Prop := ∀ (i : Nat), i < 40 -> a.q.sp i = a.q.sp i
abbrev z2Pp_17 (a : MPp) : Prop := ∀ (n : Int), a.q.st n = a.q.st n
abbrev z2Pp_18 (a : MPp) : Prop := z2Pp_5 a /\ z2Pp_6 a /\ z2Pp_7 a /\ z2Pp_8 a /\ z2Pp_9 a /\ a.q.c.ms.length = a.q.c.ms.length /\ (∀ (i : Nat), z2Pp_10 i a -> (gD a.q.c.ms i).pl = (gD a.q.c.ms i).pl /\ (gD a.q.c.ms i).ht = (gD
 a.q.c.ms i).ht) /\ a.q.c.ns.length = a.q.c.ns.length /\ (∀ (i : Nat), z2Pp_11 i a -> (gD a.q.c.ns i).mi = (gD a.q.c.ns i).mi /\ z2Pp_12 a i = z2Pp_12 a i /\ z2Pp_13 a i = z2Pp_13 a i /\ z2Pp_14 a i = z2Pp_14 a i /\ z2Pp_15 a i
 = z2Pp_15 a i) /\ z2Pp_16 a /\ zNt = zNt /\ (∀ (n : Int), hasN a.q.c.ns n = hasN a.q.c.ns n) /\ z2Pp_17 a /\ ∀ (n : Int), (ntOf a.q.c.ns n).mi = (ntOf a.q.c.ns n).mi /\ (ntOf a.q.c.ns n).t.lo = (ntOf a.q.c.ns n).t.lo /\ (ntOf
 a.q.c.ns n).t.hi = (ntOf a.q.c.ns n).t.hi /\ (ntOf a.q.c.ns n).s.lo = (ntOf a.q.c.ns n).s.lo /\ (ntOf a.q.c.ns n).s.hi = (ntOf a.q.c.ns n).s.hi
abbrev z2Pp_19 (a : MPp) (i : Nat) : Bool := !pairM a.q.c (gD a.l i)
abbrev z2Pp_20 (a : MPp) : Int := idx (λ (i : Nat) => z2Pp_19 a i) a.l.length 0
abbrev z2Pp_21 (a : MPp) (a1 : Nat) : Nat := a.l.length - a1
abbrev z2Pp_22 (a : Nat) (a1 : MPp) : Prop := a <= a1.l.length /\ z2Pp_20 a1 = idx (λ (i : Nat) => z2Pp_19 a1 i) (z2Pp_21 a1 a) a
abbrev z2Pp_23 (a : Nat) (a1 : MPp) : Prop := (↑a : Int) < (↑a1.l.length : Int)
abbrev z2Pp_24 (a : MPp) : List Mk := rng a.q.c.ms.length λ (i : Nat) => gD a.q.c.ms i
abbrev z2Pp_25 (a : MPp) : Nat := (z2Pp_24 a).length
abbrev z2Pp_26 (a : MPp) (i : Nat) : Mk := gD (z2Pp_24 a) i
abbrev z2Pp_27 (a : MPp) (i : Nat) : Int := (z2Pp_26 a i).pl
abbrev z2Pp_28 (a : MPp) (i : Nat) : Int := (z2Pp_26 a i).ht
abbrev z2Pp_29 (a : MPp) : List Nt := rng a.q.c.ns.length λ (i : Nat) => gD a.q.c.ns i
abbrev z2Pp_30 (a : MPp) : Nat := (z2Pp_29 a).length
abbrev z2Pp_31 (a : MPp) (i : Nat) : Nt := gD (z2Pp_29 a) i
abbrev z2Pp_32 (a : MPp) (i : Nat) : Int := (z2Pp_31 a i).mi
abbrev z2Pp_33 (a : MPp) (i : Nat) : Span := (z2Pp_31 a i).t
abbrev z2Pp_34 (a : MPp) (i : Nat) : Int := (z2Pp_33 a i).lo
abbrev z2Pp_35 (a : MPp) (i : Nat) : Int := (z2Pp_33 a i).hi
abbrev z2Pp_36 (a : MPp) (i : Nat) : Span := (z2Pp_31 a i).s
abbrev z2Pp_37 (a : MPp) (i : Nat) : Int := (z2Pp_36 a i).lo
abbrev z2Pp_38 (a : MPp) (i : Nat) : Int := (z2Pp_36 a i).hi
abbrev z2Pp_39 (a : MPp) (n : Int) : Bool := hasN (z2Pp_29 a) n
abbrev z2Pp_40 (a : MPp) (n : Int) : Nt := ntOf (z2Pp_29 a) n
abbrev z2Pp_41 (a : MPp) (n : Int) : Int := (z2Pp_40 a n).mi
abbrev z2Pp_42 (a : MPp) (n : Int) : Span := (z2Pp_40 a n).t
abbrev z2Pp_43 (a : MPp) (n : Int) : Int := (z2Pp_42 a n).lo
abbrev z2Pp_44 (a : MPp) (n : Int) : Int := (z2Pp_42 a n).hi
abbrev z2Pp_45 (a : MPp) (n : Int) : Span := (z2Pp_40 a n).s
abbrev z2Pp_46 (a : MPp) (n : Int) : Int := (z2Pp_45 a n).lo
abbrev z2Pp_47 (a : MPp) (n : Int) : Int := (z2Pp_45 a n).hi
theorem vc2Pp (a : MPp) : (V2Pp a) = ((∃ (a_1 : Nat), (z2Pp_0 a /\ z2Pp_3 a /\ z2Pp_4 a /\ (↑a_1 : Int) = 0 /\ z2Pp_18 a) /\ z2Pp_22 a_1 a) /\ ∀ (a_1 : Nat), z2Pp_22 a_1 a -> bif decide (z2Pp_23 a_1 a) then ((0 <= (↑a_1 : Int) /\
 z2Pp_23 a_1 a) /\ z2Pp_1 a a_1 /\ z2Pp_2 a a_1 /\ z2Pp_5 a /\ z2Pp_6 a /\ z2Pp_7 a /\ z2Pp_8 a /\ z2Pp_9 a /\ z2Pp_25 a = a.q.c.ms.length /\ (∀ (i : Nat), i < z2Pp_25 a -> z2Pp_27 a i = (gD a.q.c.ms i).pl /\ z2Pp_28 a i = (gD
 a.q.c.ms i).ht) /\ z2Pp_30 a = a.q.c.ns.length /\ (∀ (i : Nat), i < z2Pp_30 a -> z2Pp_32 a i = (gD a.q.c.ns i).mi /\ z2Pp_34 a i = z2Pp_12 a i /\ z2Pp_35 a i = z2Pp_13 a i /\ z2Pp_37 a i = z2Pp_14 a i /\ z2Pp_38 a i = z2Pp_15 a
 i) /\ z2Pp_16 a /\ zNt = zNt /\ (∀ (n : Int), z2Pp_39 a n = hasN a.q.c.ns n) /\ z2Pp_17 a /\ (∀ (n : Int), z2Pp_41 a n = (ntOf a.q.c.ns n).mi /\ z2Pp_43 a n = (ntOf a.q.c.ns n).t.lo /\ z2Pp_44 a n = (ntOf a.q.c.ns n).t.hi /\
 z2Pp_46 a n = (ntOf a.q.c.ns n).s.lo /\ z2Pp_47 a n = (ntOf a.q.c.ns n).s.hi) /\ z2Pp_5 a /\ z2Pp_6 a /\ z2Pp_7 a /\ z2Pp_8 a /\ z2Pp_9 a /\ a.q.c.ms.length = z2Pp_25 a /\ (∀ (i : Nat), z2Pp_10 i a -> (gD a.q.c.ms i).pl = z2Pp_27
 a i /\ (gD a.q.c.ms i).ht = z2Pp_28 a i) /\ a.q.c.ns.length = z2Pp_30 a /\ (∀ (i : Nat), z2Pp_11 i a -> (gD a.q.c.ns i).mi = z2Pp_32 a i /\ z2Pp_12 a i = z2Pp_34 a i /\ z2Pp_13 a i = z2Pp_35 a i /\ z2Pp_14 a i = z2Pp_37 a i /\
 z2Pp_15 a i = z2Pp_38 a i) /\ z2Pp_16 a /\ zNt = zNt /\ (∀ (n : Int), hasN a.q.c.ns n = z2Pp_39 a n) /\ z2Pp_17 a /\ (∀ (n : Int), (ntOf a.q.c.ns n).mi = z2Pp_41 a n /\ (ntOf a.q.c.ns n).t.lo = z2Pp_43 a n /\ (ntOf a.q.c.ns
 n).t.hi = z2Pp_44 a n /\ (ntOf a.q.c.ns n).s.lo = z2Pp_46 a n /\ (ntOf a.q.c.ns n).s.hi = z2Pp_47 a n) /\ z2Pp_30 a < 1073741824 /\ True) /\ bif !pairM (Cht.mk a.q.c.p a.q.c.base a.q.c.scale a.q.c.off (z2Pp_24 a) (z2Pp_29 a))
 (gD a.l a_1) then z2Pp_20 a = (↑a_1 : Int) /\ z2Pp_18 a else ∃ (a_3 : Nat), (z2Pp_0 a /\ z2Pp_3 a /\ z2Pp_4 a /\ (↑a_3 : Int) = IntKind.i64.wrap ((↑a_1 : Int) + 1) /\ z2Pp_18 a) /\ z2Pp_22 a_3 a /\ z2Pp_21 a a_3 < z2Pp_21 a a_1
 else z2Pp_20 a = -1 /\ z2Pp_18 a) := by kernel_rfl
theorem p2Pp (a : MPp) (h : allP (PPp a)) : V2Pp a := by
 obtain ⟨h, hp⟩ : a.l.length < 4611686018427387904 /\ a.q.c.ns.length < 1073741824 := h
 rw [vc2Pp]; delta z2Pp_0 z2Pp_1 z2Pp_2 z2Pp_3 z2Pp_4 z2Pp_5 z2Pp_6 z2Pp_7 z2Pp_8 z2Pp_9 z2Pp_10 z2Pp_11 z2Pp_12 z2Pp_13 z2Pp_14 z2Pp_15 z2Pp_16 z2Pp_17 z2Pp_18 z2Pp_19 z2Pp_20 z2Pp_21 z2Pp_22 z2Pp_23 z2Pp_24 z2Pp_25 z2Pp_26 z2Pp_27 z2Pp_28 z2Pp_29 z2Pp_30 z2Pp_31 z2Pp_32 z2Pp_33 z2Pp_34 z2Pp_35 z2Pp_36 z2Pp_37 z2Pp_38 z2Pp_39 z2Pp_40 z2Pp_41 z2Pp_42 z2Pp_43 z2Pp_44 z2Pp_45 z2Pp_46 z2Pp_47
 simp only [condP, eq_self, implies_true, and_self, true_and, and_true, true_implies, forall_const, decide_eq_true_eq, decide_eq_false_iff_not, Int.toNat_natCast, dSpan_eSpan, dInt_eInt, dMk_e, dNt_e, dPr_e, Nat.zero_add, Int.zero_sub, Nat.le_eq, Nat.succ_eq_add_one, Nat.add_one_le_iff, Bool.not_eq_true', Bool.not_eq_false', rng_length, dSpan_mk, rng_getD]
 refine ⟨⟨0, rfl, Nat.zero_le _, rfl⟩, λ k ⟨h1, h2⟩ => ⟨λ hlt => ?_, λ hge => ?_⟩⟩
 ·have hlt : k < a.l.length := by omega
  refine ⟨⟨⟨by omega, by omega⟩, hp⟩, λ hp => ?_, λ hp => ⟨k + 1, (wsucc (by omega)).symm, ⟨by omega, ?_⟩, by omega⟩⟩
  ·rw [h2]; exact idx_stop hlt (by simpa using hp)
  ·rw [h2]; exact idx_go hlt (by simpa using hp)
 ·rw [h2]; exact idx_end (by omega)
theorem ok2Pp : SpecOk Try.prog n_ifP (C2Pp.spec d2Pp) := okC C2Pp A2Pp [] [] fn_ifP (λ _ => by kernel_rfl) (λ _ => gok_cons ok1Pp gok_nil) p2Pp (λ _ => noI rfl rfl) _
def C3Pp : Ctr := { C2Pp with val := λ (a : MPp) => .bool (decide (idx (λ i => !pairM a.q.c (gD a.l i)) a.l.length 0 >= 0)) }
def d3Pp : List AVal -> Heap -> Option (C3Pp.α × List (Nat × Nat) × List Nat) := d2Pp
def A3Pp : Ann := { ann 9 [(n_ifP, C2Pp.spec d2Pp)] with E := [100, 101, 102] }
def V3Pp (a : MPp) : Prop := fnVC Try.prog A3Pp F_cfP (bodyOf F_cfP) (C3Pp.xs a) (heapOf (C3Pp.L a)) (C3Pp.val a) (C3Pp.keep a) [] []
abbrev z3Pp_0 (a : MPp) : List Pr := rng a.l.length λ (i : Nat) => gD a.l i
abbrev z3Pp_1 (a : MPp) : Nat := (z3Pp_0 a).length
abbrev z3Pp_2 (a : MPp) (i : Nat) : Pr := gD (z3Pp_0 a) i
abbrev z3Pp_3 (a : MPp) : Prop := a.q.c.p.lo = a.q.c.p.lo
abbrev z3Pp_4 (a : MPp) : Prop := a.q.c.p.hi = a.q.c.p.hi
abbrev z3Pp_5 (a : MPp) : Prop := a.q.c.base = a.q.c.base
abbrev z3Pp_6 (a : MPp) : Prop := a.q.c.scale = a.q.c.scale
abbrev z3Pp_7 (a : MPp) : Prop := a.q.c.off = a.q.c.off
abbrev z3Pp_8 (a : MPp) : List Mk := rng a.q.c.ms.length λ (i : Nat) => gD a.q.c.ms i
abbrev z3Pp_9 (a : MPp) : Nat := (z3Pp_8 a).length
abbrev z3Pp_10 (a : MPp) (i : Nat) : Mk := gD (z3Pp_8 a) i
abbrev z3Pp_11 (a : MPp) (i : Nat) : Int := (z3Pp_10 a i).pl
abbrev z3Pp_12 (a : MPp) (i : Nat) : Int := (z3Pp_10 a i).ht
abbrev z3Pp_13 (a : MPp) : List Nt := rng a.q.c.ns.length λ (i : Nat) => gD a.q.c.ns i
abbrev z3Pp_14 (a : MPp) : Nat := (z3Pp_13 a).length
abbrev z3Pp_15 (a : MPp) (i : Nat) : Nt := gD (z3Pp_13 a) i
abbrev z3Pp_16 (a : MPp) (i : Nat) : Int := (z3Pp_15 a i).mi
abbrev z3Pp_17 (a : MPp) (i : Nat) : Span := (z3Pp_15 a i).t
abbrev z3Pp_18 (a : MPp) (i : Nat) : Int := (z3Pp_17 a i).lo
abbrev z3Pp_19 (a : MPp) (i : Nat) : Int := (gD a.q.c.ns i).t.lo
abbrev z3Pp_20 (a : MPp) (i : Nat) : Int := (z3Pp_17 a i).hi
abbrev z3Pp_21 (a : MPp) (i : Nat) : Int := (gD a.q.c.ns i).t.hi
abbrev z3Pp_22 (a : MPp) (i : Nat) : Span := (z3Pp_15 a i).s
abbrev z3Pp_23 (a : MPp) (i : Nat) : Int := (z3Pp_22 a i).lo
abbrev z3Pp_24 (a : MPp) (i : Nat) : Int := (gD a.q.c.ns i).s.lo
abbrev z3Pp_25 (a : MPp) (i : Nat) : Int := (z3Pp_22 a i).hi
abbrev z3Pp_26 (a : MPp) (i : Nat) : Int := (gD a.q.c.ns i).s.hi
abbrev z3Pp_27 (a : MPp) : Prop := ∀ (i : Nat), i < 40 -> a.q.sp i = a.q.sp i
abbrev z3Pp_28 (a : MPp) (n : Int) : Bool := hasN (z3Pp_13 a) n
abbrev z3Pp_29 (a : MPp) : Prop := ∀ (n : Int), a.q.st n = a.q.st n
abbrev z3Pp_30 (a : MPp) (n : Int) : Nt := ntOf (z3Pp_13 a) n
abbrev z3Pp_31 (a : MPp) (n : Int) : Int := (z3Pp_30 a n).mi
abbrev z3Pp_32 (a : MPp) (n : Int) : Span := (z3Pp_30 a n).t
abbrev z3Pp_33 (a : MPp) (n : Int) : Int := (z3Pp_32 a n).lo
abbrev z3Pp_34 (a : MPp) (n : Int) : Int := (z3Pp_32 a n).hi
abbrev z3Pp_35 (a : MPp) (n : Int) : Span := (z3Pp_30 a n).s
abbrev z3Pp_36 (a : MPp) (n : Int) : Int := (z3Pp_35 a n).lo
abbrev z3Pp_37 (a : MPp) (n : Int) : Int := (z3Pp_35 a n).hi
abbrev z3Pp_38 (i : Nat) (a : MPp) : Prop := i < a.q.c.ms.length
abbrev z3Pp_39 (i : Nat) (a : MPp) : Prop := i < a.q.c.ns.length
theorem vc3Pp (a : MPp) : (V3Pp a) = ((z3Pp_1 a = a.l.length /\ (∀ (i : Nat), i < z3Pp_1 a -> (z3Pp_2 a i).a = (gD a.l i).a /\ (z3Pp_2 a i).b = (gD a.l i).b) /\ z3Pp_3 a /\ z3Pp_4 a /\ z3Pp_5 a /\ z3Pp_6 a /\ z3Pp_7 a /\ z3Pp_9 a
 = a.q.c.ms.length /\ (∀ (i : Nat), i < z3Pp_9 a -> z3Pp_11 a i = (gD a.q.c.ms i).pl /\ z3Pp_12 a i = (gD a.q.c.ms i).ht) /\ z3Pp_14 a = a.q.c.ns.length /\ (∀ (i : Nat), i < z3Pp_14 a -> z3Pp_16 a i = (gD a.q.c.ns i).mi /\
 z3Pp_18 a i = z3Pp_19 a i /\ z3Pp_20 a i = z3Pp_21 a i /\ z3Pp_23 a i = z3Pp_24 a i /\ z3Pp_25 a i = z3Pp_26 a i) /\ z3Pp_27 a /\ zNt = zNt /\ (∀ (n : Int), z3Pp_28 a n = hasN a.q.c.ns n) /\ z3Pp_29 a /\ (∀ (n : Int), z3Pp_31 a
 n = (ntOf a.q.c.ns n).mi /\ z3Pp_33 a n = (ntOf a.q.c.ns n).t.lo /\ z3Pp_34 a n = (ntOf a.q.c.ns n).t.hi /\ z3Pp_36 a n = (ntOf a.q.c.ns n).s.lo /\ z3Pp_37 a n = (ntOf a.q.c.ns n).s.hi) /\ z3Pp_3 a /\ z3Pp_4 a /\ z3Pp_5 a /\
 z3Pp_6 a /\ z3Pp_7 a /\ a.q.c.ms.length = z3Pp_9 a /\ (∀ (i : Nat), z3Pp_38 i a -> (gD a.q.c.ms i).pl = z3Pp_11 a i /\ (gD a.q.c.ms i).ht = z3Pp_12 a i) /\ a.q.c.ns.length = z3Pp_14 a /\ (∀ (i : Nat), z3Pp_39 i a -> (gD a.q.c.ns
 i).mi = z3Pp_16 a i /\ z3Pp_19 a i = z3Pp_18 a i /\ z3Pp_21 a i = z3Pp_20 a i /\ z3Pp_24 a i = z3Pp_23 a i /\ z3Pp_26 a i = z3Pp_25 a i) /\ z3Pp_27 a /\ zNt = zNt /\ (∀ (n : Int), hasN a.q.c.ns n = z3Pp_28 a n) /\ z3Pp_29 a /\ (∀
 (n : Int), (ntOf a.q.c.ns n).mi = z3Pp_31 a n /\ (ntOf a.q.c.ns n).t.lo = z3Pp_33 a n /\ (ntOf a.q.c.ns n).t.hi = z3Pp_34 a n /\ (ntOf a.q.c.ns n).s.lo = z3Pp_36 a n /\ (ntOf a.q.c.ns n).s.hi = z3Pp_37 a n) /\ z3Pp_1 a <
 4611686018427387904 /\ z3Pp_14 a < 1073741824) /\ decide (idx (λ (i : Nat) => !pairM a.q.c (gD a.l i)) a.l.length 0 >= 0) = decide (idx (λ (i : Nat) => !pairM (Cht.mk a.q.c.p a.q.c.base a.q.c.scale a.q.c.off (z3Pp_8 a)
 (z3Pp_13 a)) (z3Pp_2 a i)) (z3Pp_1 a) 0 >= 0) /\ z3Pp_3 a /\ z3Pp_4 a /\ z3Pp_5 a /\ z3Pp_6 a /\ z3Pp_7 a /\ a.q.c.ms.length = a.q.c.ms.length /\ (∀ (i : Nat), z3Pp_38 i a -> (gD a.q.c.ms i).pl = (gD a.q.c.ms i).pl /\ (gD a.q.c.ms
 i).ht = (gD a.q.c.ms i).ht) /\ a.q.c.ns.length = a.q.c.ns.length /\ (∀ (i : Nat), z3Pp_39 i a -> (gD a.q.c.ns i).mi = (gD a.q.c.ns i).mi /\ z3Pp_19 a i = z3Pp_19 a i /\ z3Pp_21 a i = z3Pp_21 a i /\ z3Pp_24 a i = z3Pp_24 a i /\
 z3Pp_26 a i = z3Pp_26 a i) /\ z3Pp_27 a /\ zNt = zNt /\ (∀ (n : Int), hasN a.q.c.ns n = hasN a.q.c.ns n) /\ z3Pp_29 a /\ ∀ (n : Int), (ntOf a.q.c.ns n).mi = (ntOf a.q.c.ns n).mi /\ (ntOf a.q.c.ns n).t.lo = (ntOf a.q.c.ns
 n).t.lo /\ (ntOf a.q.c.ns n).t.hi = (ntOf a.q.c.ns n).t.hi /\ (ntOf a.q.c.ns n).s.lo = (ntOf a.q.c.ns n).s.lo /\ (ntOf a.q.c.ns n).s.hi = (ntOf a.q.c.ns n).s.hi) := by kernel_rfl
theorem ok3Pp : SpecOk Try.prog n_cfP (C3Pp.spec d3Pp) := Ctr.spec_ok (C := C3Pp) (λ (a : MPp) h => fnt (A := A3Pp) (ren := []) (fz := []) fn_cfP (by kernel_rfl) (gok_cons ok2Pp gok_nil) (by
 obtain ⟨h, hp⟩ : a.l.length < 4611686018427387904 /\ a.q.c.ns.length < 1073741824 := h
 show V3Pp a; rw [vc3Pp]; delta z3Pp_0 z3Pp_1 z3Pp_2 z3Pp_3 z3Pp_4 z3Pp_5 z3Pp_6 z3Pp_7 z3Pp_8 z3Pp_9 z3Pp_10 z3Pp_11 z3Pp_12 z3Pp_13 z3Pp_14 z3Pp_15 z3Pp_16 z3Pp_17 z3Pp_18 z3Pp_19 z3Pp_20 z3Pp_21 z3Pp_22 z3Pp_23 z3Pp_24 z3Pp_25 z3Pp_26 z3Pp_27 z3Pp_28 z3Pp_29 z3Pp_30 z3Pp_31 z3Pp_32 z3Pp_33 z3Pp_34 z3Pp_35 z3Pp_36 z3Pp_37 z3Pp_38 z3Pp_39; simp [h, hp, rng_getD, cht_eta])) _
def d4Pp : List AVal -> Heap -> Option (MPp × List (Nat × Nat) × List Nat)
 | [y, .fn _ [.bptr j _] _], H => match dRow y H with
  | some (n, g, f) => match decDk H j with
   | some (q, m) => some (⟨q, rng n λ i => dPr (g i)⟩, [(101, j), (102, m)], f)
   | none => none
  | none => none
 | _, _ => none
def A4Pp : Ann := { ann 9 [(n_cfP, C3Pp.spec d3Pp)] with E := [101, 102] }
def C4Pp : Ctr := { ro := [101, 102], α := MPp, xs := λ a => [.d (ePrs a.l), fvPp a.q], L := λ a => LXPp a.q, val := λ a => .bool (a.l.all λ x => pairM a.q.c x), keep := λ a => KXPp a.q, pre := PPp }
def V4Pp (a : MPp) : Prop := fnVC Try.prog A4Pp F_eP (bodyOf F_eP) (C4Pp.xs a) (heapOf (C4Pp.L a)) (C4Pp.val a) (C4Pp.keep a) [] []
abbrev z4Pp_0 (a : MPp) : List Pr := rng a.l.length λ (i : Nat) => gD a.l i
abbrev z4Pp_1 (a : MPp) : Nat := (z4Pp_0 a).length
abbrev z4Pp_2 (a : MPp) (i : Nat) : Pr := gD (z4Pp_0 a) i
abbrev z4Pp_3 (a : MPp) : Prop := a.q.c.p.lo = a.q.c.p.lo
abbrev z4Pp_4 (a : MPp) : Prop := a.q.c.p.hi = a.q.c.p.hi
abbrev z4Pp_5 (a : MPp) : Prop := a.q.c.base = a.q.c.base
abbrev z4Pp_6 (a : MPp) : Prop := a.q.c.scale = a.q.c.scale
abbrev z4Pp_7 (a : MPp) : Prop := a.q.c.off = a.q.c.off
abbrev z4Pp_8 (a : MPp) : List Mk := rng a.q.c.ms.length λ (i : Nat) => gD a.q.c.ms i
abbrev z4Pp_9 (a : MPp) : Nat := (z4Pp_8 a).length
abbrev z4Pp_10 (a : MPp) (i : Nat) : Mk := gD (z4Pp_8 a) i
abbrev z4Pp_11 (a : MPp) (i : Nat) : Int := (z4Pp_10 a i).pl
abbrev z4Pp_12 (a : MPp) (i : Nat) : Int := (z4Pp_10 a i).ht
abbrev z4Pp_13 (a : MPp) : List Nt := rng a.q.c.ns.length λ (i : Nat) => gD a.q.c.ns i
abbrev z4Pp_14 (a : MPp) : Nat := (z4Pp_13 a).length
abbrev z4Pp_15 (a : MPp) (i : Nat) : Nt := gD (z4Pp_13 a) i
abbrev z4Pp_16 (a : MPp) (i : Nat) : Int := (z4Pp_15 a i).mi
abbrev z4Pp_17 (a : MPp) (i : Nat) : Span := (z4Pp_15 a i).t
abbrev z4Pp_18 (a : MPp) (i : Nat) : Int := (z4Pp_17 a i).lo
abbrev z4Pp_19 (a : MPp) (i : Nat) : Int := (gD a.q.c.ns i).t.lo
abbrev z4Pp_20 (a : MPp) (i : Nat) : Int := (z4Pp_17 a i).hi
abbrev z4Pp_21 (a : MPp) (i : Nat) : Int := (gD a.q.c.ns i).t.hi
abbrev z4Pp_22 (a : MPp) (i : Nat) : Span := (z4Pp_15 a i).s
abbrev z4Pp_23 (a : MPp) (i : Nat) : Int := (z4Pp_22 a i).lo
abbrev z4Pp_24 (a : MPp) (i : Nat) : Int := (gD a.q.c.ns i).s.lo
abbrev z4Pp_25 (a : MPp) (i : Nat) : Int := (z4Pp_22 a i).hi
abbrev z4Pp_26 (a : MPp) (i : Nat) : Int := (gD a.q.c.ns i).s.hi
abbrev z4Pp_27 (a : MPp) : Prop := ∀ (i : Nat), i < 40 -> a.q.sp i = a.q.sp i
abbrev z4Pp_28 (a : MPp) (n : Int) : Bool := hasN (z4Pp_13 a) n
abbrev z4Pp_29 (a : MPp) : Prop := ∀ (n : Int), a.q.st n = a.q.st n
abbrev z4Pp_30 (a : MPp) (n : Int) : Nt := ntOf (z4Pp_13 a) n
abbrev z4Pp_31 (a : MPp) (n : Int) : Int := (z4Pp_30 a n).mi
abbrev z4Pp_32 (a : MPp) (n : Int) : Span := (z4Pp_30 a n).t
abbrev z4Pp_33 (a : MPp) (n : Int) : Int := (z4Pp_32 a n).lo
abbrev z4Pp_34 (a : MPp) (n : Int) : Int := (z4Pp_32 a n).hi
abbrev z4Pp_35 (a : MPp) (n : Int) : Span := (z4Pp_30 a n).s
abbrev z4Pp_36 (a : MPp) (n : Int) : Int := (z4Pp_35 a n).lo
abbrev z4Pp_37 (a : MPp) (n : Int) : Int := (z4Pp_35 a n).hi
abbrev z4Pp_38 (i : Nat) (a : MPp) : Prop := i < a.q.c.ms.length
abbrev z4Pp_39 (i : Nat) (a : MPp) : Prop := i < a.q.c.ns.length
theorem vc4Pp (a : MPp) : (V4Pp a) = ((z4Pp_1 a = a.l.length /\ (∀ (i : Nat), i < z4Pp_1 a -> (z4Pp_2 a i).a = (gD a.l i).a /\ (z4Pp_2 a i).b = (gD a.l i).b) /\ z4Pp_3 a /\ z4Pp_4 a /\ z4Pp_5 a /\ z4Pp_6 a /\ z4Pp_7 a /\ z4Pp_9 a
 = a.q.c.ms.length /\ (∀ (i : Nat), i < z4Pp_9 a -> z4Pp_11 a i = (gD a.q.c.ms i).pl /\ z4Pp_12 a i = (gD a.q.c.ms i).ht) /\ z4Pp_14 a = a.q.c.ns.length /\ (∀ (i : Nat), i < z4Pp_14 a -> z4Pp_16 a i = (gD a.q.c.ns i).mi /\
 z4Pp_18 a i = z4Pp_19 a i /\ z4Pp_20 a i = z4Pp_21 a i /\ z4Pp_23 a i = z4Pp_24 a i /\ z4Pp_25 a i = z4Pp_26 a i) /\ z4Pp_27 a /\ zNt = zNt /\ (∀ (n : Int), z4Pp_28 a n = hasN a.q.c.ns n) /\ z4Pp_29 a /\ (∀ (n : Int), z4Pp_31 a
 n = (ntOf a.q.c.ns n).mi /\ z4Pp_33 a n = (ntOf a.q.c.ns n).t.lo /\ z4Pp_34 a n = (ntOf a.q.c.ns n).t.hi /\ z4Pp_36 a n = (ntOf a.q.c.ns n).s.lo /\ z4Pp_37 a n = (ntOf a.q.c.ns n).s.hi) /\ z4Pp_3 a /\ z4Pp_4 a /\ z4Pp_5 a /\
 z4Pp_6 a /\ z4Pp_7 a /\ a.q.c.ms.length = z4Pp_9 a /\ (∀ (i : Nat), z4Pp_38 i a -> (gD a.q.c.ms i).pl = z4Pp_11 a i /\ (gD a.q.c.ms i).ht = z4Pp_12 a i) /\ a.q.c.ns.length = z4Pp_14 a /\ (∀ (i : Nat), z4Pp_39 i a -> (gD a.q.c.ns
 i).mi = z4Pp_16 a i /\ z4Pp_19 a i = z4Pp_18 a i /\ z4Pp_21 a i = z4Pp_20 a i /\ z4Pp_24 a i = z4Pp_23 a i /\ z4Pp_26 a i = z4Pp_25 a i) /\ z4Pp_27 a /\ zNt = zNt /\ (∀ (n : Int), hasN a.q.c.ns n = z4Pp_28 a n) /\ z4Pp_29 a /\ (∀
 (n : Int), (ntOf a.q.c.ns n).mi = z4Pp_31 a n /\ (ntOf a.q.c.ns n).t.lo = z4Pp_33 a n /\ (ntOf a.q.c.ns n).t.hi = z4Pp_34 a n /\ (ntOf a.q.c.ns n).s.lo = z4Pp_36 a n /\ (ntOf a.q.c.ns n).s.hi = z4Pp_37 a n) /\ z4Pp_1 a <
 4611686018427387904 /\ z4Pp_14 a < 1073741824) /\ (a.l.all λ (x : Pr) => pairM a.q.c x) = !decide (idx (λ (i : Nat) => !pairM (Cht.mk a.q.c.p a.q.c.base a.q.c.scale a.q.c.off (z4Pp_8 a) (z4Pp_13 a)) (z4Pp_2 a i))
 (z4Pp_1 a) 0 >= 0) /\ z4Pp_3 a /\ z4Pp_4 a /\ z4Pp_5 a /\ z4Pp_6 a /\ z4Pp_7 a /\ a.q.c.ms.length = a.q.c.ms.length /\ (∀ (i : Nat), z4Pp_38 i a -> (gD a.q.c.ms i).pl = (gD a.q.c.ms i).pl /\ (gD a.q.c.ms i).ht = (gD a.q.c.ms
 i).ht) /\ a.q.c.ns.length = a.q.c.ns.length /\ (∀ (i : Nat), z4Pp_39 i a -> (gD a.q.c.ns i).mi = (gD a.q.c.ns i).mi /\ z4Pp_19 a i = z4Pp_19 a i /\ z4Pp_21 a i = z4Pp_21 a i /\ z4Pp_24 a i = z4Pp_24 a i /\ z4Pp_26 a i = z4Pp_26
 a i) /\ z4Pp_27 a /\ zNt = zNt /\ (∀ (n : Int), hasN a.q.c.ns n = hasN a.q.c.ns n) /\ z4Pp_29 a /\ ∀ (n : Int), (ntOf a.q.c.ns n).mi = (ntOf a.q.c.ns n).mi /\ (ntOf a.q.c.ns n).t.lo = (ntOf a.q.c.ns n).t.lo /\ (ntOf a.q.c.ns
 n).t.hi = (ntOf a.q.c.ns n).t.hi /\ (ntOf a.q.c.ns n).s.lo = (ntOf a.q.c.ns n).s.lo /\ (ntOf a.q.c.ns n).s.hi = (ntOf a.q.c.ns n).s.hi) := by kernel_rfl
theorem fn4Pp (a : MPp) (h : allP (PPp a)) : FnT Try.prog n_eP (C4Pp.xs a) (heapOf (C4Pp.L a)) (C4Pp.val a) (C4Pp.keep a) := fnt (A := A4Pp) (ren := []) (fz := []) fn_eP (by kernel_rfl) (gok_cons ok3Pp gok_nil) (by
 have h' : a.l.length < 4611686018427387904 /\ a.q.c.ns.length < 1073741824 := h
 show V4Pp a; rw [vc4Pp]; delta z4Pp_0 z4Pp_1 z4Pp_2 z4Pp_3 z4Pp_4 z4Pp_5 z4Pp_6 z4Pp_7 z4Pp_8 z4Pp_9 z4Pp_10 z4Pp_11 z4Pp_12 z4Pp_13 z4Pp_14 z4Pp_15 z4Pp_16 z4Pp_17 z4Pp_18 z4Pp_19 z4Pp_20 z4Pp_21 z4Pp_22 z4Pp_23 z4Pp_24 z4Pp_25 z4Pp_26 z4Pp_27 z4Pp_28 z4Pp_29 z4Pp_30 z4Pp_31 z4Pp_32 z4Pp_33 z4Pp_34 z4Pp_35 z4Pp_36 z4Pp_37 z4Pp_38 z4Pp_39; simp only [condP, eq_self, implies_true, and_self, true_and, and_true, true_implies, forall_const, decide_eq_true_eq, decide_eq_false_iff_not, Int.toNat_natCast, dSpan_eSpan, dInt_eInt, dMk_e, dNt_e, dPr_e, Nat.zero_add, Int.zero_sub, Nat.le_eq, Nat.succ_eq_add_one, Nat.add_one_le_iff, Bool.not_eq_true', Bool.not_eq_false', rng_length, dSpan_mk, rng_getD, ge_iff_le]
 rw [<- every_all]
 exact ⟨h', rfl⟩)
theorem ok4Pp : SpecOk Try.prog n_eP (C4Pp.spec d4Pp) := Ctr.spec_ok (C := C4Pp) fn4Pp _
end Go.Bal
