/- Package chart: times are narrowed. -/
import Derived.Test.YtdbjalgfomknhaaChD1
set_option linter.unusedVariables false
set_option linter.unusedSimpArgs false
namespace Go.Bal
open Go Go.Sym Go.Proofs
def C_gaps : Ctr := { ro := [100, 101], α := Dk, xs := λ _ => [.bptr 100 0], L := λ w => dkL w, val := λ _ => .fn (.func n_gaps1) [] [.bptr 0 0], keep := λ w => dkK w ++ [(0, .live (.box [.bptr 100 0]))] }
def A_gaps : Ann := { ann 4 [] with E := [100, 101] }
def V_gaps (w : Dk) : Prop := fnVC Try.prog A_gaps F_gaps (bodyOf F_gaps) (C_gaps.xs w) (heapOf (C_gaps.L w)) (C_gaps.val w) (C_gaps.keep w) [(0, 1000)] []
theorem vc_gaps (w : Dk) : (V_gaps w) = (w.c.p.lo = w.c.p.lo /\ w.c.p.hi = w.c.p.hi /\ w.c.base = w.c.base /\ w.c.scale = w.c.scale /\ w.c.off = w.c.off /\ w.c.ms.length = w.c.ms.length /\ (∀ (i : Nat), i < w.c.ms.length -> (gD
 w.c.ms i).pl = (gD w.c.ms i).pl /\ (gD w.c.ms i).ht = (gD w.c.ms i).ht) /\ w.c.ns.length = w.c.ns.length /\ (∀ (i : Nat), i < w.c.ns.length -> (gD w.c.ns i).mi = (gD w.c.ns i).mi /\ (gD w.c.ns i).t.lo = (gD w.c.ns i).t.lo /\
 (gD w.c.ns i).t.hi = (gD w.c.ns i).t.hi /\ (gD w.c.ns i).s.lo = (gD w.c.ns i).s.lo /\ (gD w.c.ns i).s.hi = (gD w.c.ns i).s.hi) /\ (∀ (i : Nat), i < 40 -> w.sp i = w.sp i) /\ zNt = zNt /\ (∀ (n : Int), hasN w.c.ns n = hasN
 w.c.ns n) /\ (∀ (n : Int), w.st n = w.st n) /\ ∀ (n : Int), (ntOf w.c.ns n).mi = (ntOf w.c.ns n).mi /\ (ntOf w.c.ns n).t.lo = (ntOf w.c.ns n).t.lo /\ (ntOf w.c.ns n).t.hi = (ntOf w.c.ns n).t.hi /\ (ntOf w.c.ns n).s.lo = (ntOf
 w.c.ns n).s.lo /\ (ntOf w.c.ns n).s.hi = (ntOf w.c.ns n).s.hi) := by kernel_rfl
theorem ok_gaps : SpecOk Try.prog n_gaps (C_gaps.spec dDk1) := okC C_gaps (λ _ => A_gaps) [(0, 1000)] [] fn_gaps (λ _ => by kernel_rfl) (λ _ => gok_nil) (λ (w : Dk) _ => by
 show V_gaps w; rw [vc_gaps]; simp) (λ _ => noI rfl rfl) _
def farM (c : Cht) (g : Nat) : Int := wr ((gD c.ms (g + 1)).pl - (gD c.ms g).pl)
def gapM (w : Dk) (g : Nat) : Span := ⟨wr (w.c.p.lo * farM w.c g), bif w.sp g then 200000000 else wr (w.c.p.hi * farM w.c g)⟩
def gapL (w : Dk) : List Span := rng (w.c.ms.length - 1) λ g => gapM w g
structure LIS where
 l : List Span
 k : Int
 s : Span
def upd1 (l : List Span) (k : Int) (s : Span) (i : Nat) : Span := bif decide (i = k.toNat) then com (gD l k.toNat) s else gD l i
def lkR (n : Nat) (f : Nat -> Span) : List (Nat × HCell) := [(100, .live (.box [.own 101 2 0 n])), (101, .live (.row 2 n λ i => eSpan (f i)))]
def C_nar1 : Ctr := { ro := [100], α := LIS, xs := λ a => [.int a.k, .d (eSpan a.s), .bptr 100 0], L := λ a => [(100, .box [.own 101 2 0 a.l.length]), (101, rowS a.l)], val := λ _ => .d (.tup []), keep := λ a => lkR a.l.length (upd1 a.l a.k a.s), pre := λ a => [0 <= a.k /\ a.k < a.l.length] }
def d_nar1 : List AVal -> Heap -> Option (LIS × List (Nat × Nat) × List Nat)
 | [.d k, .d s, .bptr id _], H => match H id with
  | .live (.box [.own j _ _ _]) => match H j with
   | .live (.row _ n g) => some (⟨rng n λ i => dSpan (g i), dInt k, dSpan s⟩, [(100, id), (101, j)], [])
   | _ => none
  | _ => none
 | _, _ => none
def A_nar1 : Ann := { ann 15 [(n_common, C_com.spec d_com)] with E := [100, 101] }
def V_nar1 (a : LIS) : Prop := fnVC Try.prog A_nar1 F_nar1 (bodyOf F_nar1) (C_nar1.xs a) (heapOf (C_nar1.L a)) (C_nar1.val a) (C_nar1.keep a) [] []
theorem vc_nar1 (a : LIS) : (V_nar1 a) = (((0 <= a.k /\ a.k < (↑a.l.length : Int)) /\ 0 + a.k.toNat < a.l.length /\ (gD a.l (0 + a.k.toNat)).lo = (gD a.l (0 + a.k.toNat)).lo /\ (gD a.l (0 + a.k.toNat)).hi = (gD a.l (0 +
 a.k.toNat)).hi /\ (rng 1 λ (i : Nat) => a.s).length = 1 /\ 1 <= 1 /\ (∀ (j : Nat), j < (rng 1 λ (i : Nat) => a.s).length -> (gD (rng 1 λ (i : Nat) => a.s) j).lo = a.s.lo /\ (gD (rng 1 λ (i : Nat) => a.s) j).hi =
 a.s.hi) /\ true = true /\ (0 <= a.k /\ a.k < (↑a.l.length : Int)) /\ (0 + a.k.toNat).succ.le a.l.length) /\ 0 = 0 /\ a.l.length = a.l.length /\ a.l.length = a.l.length /\ ∀ (i : Nat), i < a.l.length -> ((upd1 a.l a.k a.s i).lo =
 bif decide (i = 0 + a.k.toNat) then (comM (SL.mk (gD a.l (0 + a.k.toNat)) (rng 1 λ (i : Nat) => a.s))).lo else (gD a.l i).lo) /\ (upd1 a.l a.k a.s i).hi = bif decide (i = 0 + a.k.toNat) then (comM (SL.mk (gD a.l (0 +
 a.k.toNat)) (rng 1 λ (i : Nat) => a.s))).hi else (gD a.l i).hi) := by kernel_rfl
theorem ok_nar1 : SpecOk Try.prog n_nar1 (C_nar1.spec d_nar1) := okC C_nar1 (λ _ => A_nar1) [] [] fn_nar1 (λ _ => by kernel_rfl) (λ _ => gok_cons ok_com gok_nil) (λ (a : LIS) h => by
 show V_nar1 a; rw [vc_nar1]; simp only [condP, eq_self, implies_true, and_self, true_and, and_true, true_implies, forall_const, decide_eq_true_eq, decide_eq_false_iff_not, Int.toNat_natCast, dSpan_eSpan, dInt_eInt, dMk_e, dNt_e, dPr_e, Nat.zero_add, Int.zero_sub, Nat.le_eq, Nat.succ_eq_add_one, Nat.add_one_le_iff, Bool.not_eq_true', Bool.not_eq_false', rng_length, dSpan_mk, rng_getD]
 have h : 0 <= a.k /\ a.k < a.l.length := h
 have e : comM ⟨gD a.l a.k.toNat, rng 1 λ _ => a.s⟩ = com (gD a.l a.k.toNat) a.s := rfl
 refine ⟨⟨h, by omega, by omega, λ j hj => by rw [rng_get _ _ _ hj]; exact ⟨rfl, rfl⟩, h, by omega⟩, λ i hi => ?_⟩
 rw [e]; unfold upd1
 cases decide (i = a.k.toNat) <;> exact ⟨rfl, rfl⟩) (λ _ => noI rfl rfl) _
def addS (a s : Span) : Span := ⟨wr (a.lo + s.lo), wr (a.hi + s.hi)⟩
def subS (a s : Span) : Span := ⟨wr (a.lo - s.hi), wr (a.hi - s.lo)⟩
def fwM (l : List Span) (s : Nat -> Span) : Nat -> Span
 | 0 => gD l 0
 | g + 1 => com (gD l (g + 1)) (addS (fwM l s g) (s g))
def bkM (f s : Nat -> Span) (n : Nat) : Nat -> Span
 | 0 => f n
 | j + 1 => com (f (n - (j + 1))) (subS (bkM f s n j) (s (n - (j + 1))))
def narL (w : Dk) (l : List Span) : List Span := rng l.length λ i => bkM (fwM l (gapM w)) (gapM w) (l.length - 1) (l.length - 1 - i)
structure DkS where
 w : Dk
 l : List Span
def dDkS : List AVal -> Heap -> Option (DkS × List (Nat × Nat) × List Nat)
 | [.bptr id _, y], H => match decDk H id, dSpans y H with
  | some (w, q), some (l, f) => some (⟨w, l⟩, [(100, id), (101, q)], f)
  | _, _ => none
 | _, _ => none
def C_nar : Ctr := { ro := [100, 101], α := DkS, xs := λ a => [.bptr 100 0, .d (eSpans a.l)], L := λ a => dkL a.w, val := λ a => .tup [.d (eSpans (narL a.w a.l)), .bool ((narL a.w a.l).all leM)], keep := λ a => dkK a.w, pre := λ a => [a.l.length = a.w.c.ms.length /\ 1 <= a.w.c.ms.length /\ a.w.c.ms.length <= 40] }
def nrH (a : DkS) (f : Nat -> Span) (p : AVal) : List (Nat × HCell) := dkK a.w ++ [(2016, .live (.row 2 a.l.length λ i => eSpan (f i))), (2032, .live (.box [.own 2016 2 0 a.l.length])), (3000, .live (.box [p]))]
def gpS (a : DkS) (l k : Nat) : List (Nat × AVal) := [(0, .fn (.yield l) [] []), (1, .bptr 4016 0), (12, .int (wr ((a.w.c.ms.length : Int) - 1))), (13, .int k)]
def gpB : Nat × HCell := (4016, .live (.box [.bptr 100 0]))
def gp1n (a : DkS) (l : Nat) : Shape := { α := One, dflt := default, T := λ _ => ⟨gpS a l 0, nrH a (gD a.l) (.d nilL) ++ [gpB]⟩, inv := λ _ => True, meas := λ _ => 60 }
def gp1o (a : DkS) (l : Nat) : Shape := { α := Nat, dflt := 0, T := λ k => ⟨gpS a l k, nrH a (gD a.l) (.own 302 2 0 k) ++ [gpB, (302, .live (.row 2 k λ i => eSpan (gapM a.w i)))]⟩, inv := λ k => 1 <= k /\ k <= a.w.c.ms.length - 1, meas := λ k => 50 - k, again := [(302, 6048)] }
noncomputable def itGap (a : DkS) : IterAnn := { fn := F_gaps1, code := bodyOf F_gaps1, live := [6, 7], ann := { base := λ id => 100000 + 1000 * (id + 1), Γ := Sym.look [], E := [100, 101, 2016, 2032, 3000, 4016], n := 66, inner := λ gs id => if id = 1 then some [gp1n a (gs.getD 0 0), gp1o a (gs.getD 0 0)] else none } }
def nr6T (a : DkS) : One -> ST := λ _ => ⟨[(6, .bptr 2032 0), (7, .bptr 3000 0)], nrH a (gD a.l) (.d (eSpans (gapL a.w)))⟩
def nr6 (a : DkS) (z : List Nat) : Shape := { α := One, dflt := default, T := nr6T a, inv := λ _ => True, meas := λ _ => 0, ffz := z }
def nr7 (a : DkS) : Shape := { α := One, dflt := default, T := λ _ => ⟨[(6, .bptr 2032 0), (7, .bptr 3000 0), (10, .fn (.func n_nar1) [] [.bptr 2032 0])], nrH a (gD a.l) (.d (eSpans (gapL a.w)))⟩, inv := λ _ => True, meas := λ _ => 0 }
def nrF (a : DkS) (k i : Nat) : Span := bif decide (i <= k) then fwM a.l (gapM a.w) i else gD a.l i
def nrB (a : DkS) (j i : Nat) : Span := bif decide (a.w.c.ms.length - 1 - j <= i) then bkM (fwM a.l (gapM a.w)) (gapM a.w) (a.w.c.ms.length - 1) (a.w.c.ms.length - 1 - i) else fwM a.l (gapM a.w) i
def nr8 (a : DkS) : Shape := { α := Nat, dflt := 0, T := λ k => ⟨[(6, .bptr 2032 0), (7, .bptr 3000 0), (10, .fn (.func n_nar1) [] [.bptr 2032 0]), (25, .d (eSpans (gapL a.w))), (26, .int (gapL a.w).length), (27, .int k)], nrH a (nrF a k) (.d (eSpans (gapL a.w)))⟩, inv := λ k => k <= a.w.c.ms.length - 1, meas := λ k => 50 - k }
def nr13 (a : DkS) : Shape := { α := Nat, dflt := 0, T := λ j => ⟨[(6, .bptr 2032 0), (7, .bptr 3000 0), (10, .fn (.func n_nar1) [] [.bptr 2032 0]), (13, .int ((a.w.c.ms.length : Int) - 2 - j))], nrH a (nrB a j) (.d (eSpans (gapL a.w)))⟩, inv := λ j => j <= a.w.c.ms.length - 1, meas := λ j => 50 - j }
noncomputable def A_nar (a : DkS) : Ann := { ann 92 [(n_cloneS, C_clo.spec dSs1), (n_gaps, C_gaps.spec dDk1), (n_nar1, C_nar1.spec d_nar1), (n_eS, C4SnO.spec d4SnO)] with E := [100, 101], mt := λ id => id == 5, iter := λ g => if g = n_gaps1 then some (itGap a) else none, loops := λ id => if id = 8 then some [nr8 a] else if id = 13 then some [nr13 a] else none, cut := λ id => if id = 6 then some [nr6 a [], nr6 a [302]] else if id = 7 then some [nr7 a] else none }
def V_nar (a : DkS) : Prop := fnVC Try.prog (A_nar a) F_narrowed (bodyOf F_narrowed) (C_nar.xs a) (heapOf (C_nar.L a)) (C_nar.val a) (C_nar.keep a) [] [2016]
abbrev z_nar_0 (a : DkS) : List Span := rng a.l.length λ (i : Nat) => gD a.l i
abbrev z_nar_1 (a : DkS) : Nat := (z_nar_0 a).length
abbrev z_nar_2 (a : DkS) (i : Nat) : Span := gD (z_nar_0 a) i
abbrev z_nar_3 (a : DkS) (i : Nat) : Int := (z_nar_2 a i).lo
abbrev z_nar_4 (a : DkS) (i : Nat) : Int := (z_nar_2 a i).hi
abbrev z_nar_5 (a : DkS) : Prop := a.w.c.p.lo = a.w.c.p.lo
abbrev z_nar_6 (a : DkS) : Prop := a.w.c.p.hi = a.w.c.p.hi
abbrev z_nar_7 (a : DkS) : Prop := a.w.c.base = a.w.c.base
abbrev z_nar_8 (a : DkS) : Prop := a.w.c.scale = a.w.c.scale
abbrev z_nar_9 (a : DkS) : Prop := a.w.c.off = a.w.c.off
abbrev z_nar_10 (a : DkS) : List Mk := rng a.w.c.ms.length λ (i : Nat) => gD a.w.c.ms i
abbrev z_nar_11 (a : DkS) : Nat := (z_nar_10 a).length
abbrev z_nar_12 (a : DkS) (i : Nat) : Mk := gD (z_nar_10 a) i
abbrev z_nar_13 (a : DkS) (i : Nat) : Int := (z_nar_12 a i).pl
abbrev z_nar_14 (a : DkS) (i : Nat) : Int := (z_nar_12 a i).ht
abbrev z_nar_15 (a : DkS) : List Nt := rng a.w.c.ns.length λ (i : Nat) => gD a.w.c.ns i
abbrev z_nar_16 (a : DkS) : Nat := (z_nar_15 a).length
abbrev z_nar_17 (a : DkS) (i : Nat) : Nt := gD (z_nar_15 a) i
abbrev z_nar_18 (a : DkS) (i : Nat) : Int := (z_nar_17 a i).mi
abbrev z_nar_19 (a : DkS) (i : Nat) : Span := (z_nar_17 a i).t
abbrev z_nar_20 (a : DkS) (i : Nat) : Int := (z_nar_19 a i).lo
abbrev z_nar_21 (a : DkS) (i : Nat) : Int := (gD a.w.c.ns i).t.lo
abbrev z_nar_22 (a : DkS) (i : Nat) : Int := (z_nar_19 a i).hi
abbrev z_nar_23 (a : DkS) (i : Nat) : Int := (gD a.w.c.ns i).t.hi
abbrev z_nar_24 (a : DkS) (i : Nat) : Span := (z_nar_17 a i).s
abbrev z_nar_25 (a : DkS) (i : Nat) : Int := (z_nar_24 a i).lo
abbrev z_nar_26 (a : DkS) (i : Nat) : Int := (gD a.w.c.ns i).s.lo
abbrev z_nar_27 (a : DkS) (i : Nat) : Int := (z_nar_24 a i).hi
abbrev z_nar_28 (a : DkS) (i : Nat) : Int := (gD a.w.c.ns i).s.hi
abbrev z_nar_29 (a : DkS) : Prop := ∀ (i : Nat), i < (40 : Nat) -> a.w.sp i = a.w.sp i
abbrev z_nar_30 (a : DkS) (n : Int) : Bool := hasN (z_nar_15 a) n
abbrev z_nar_31 (a : DkS) : Prop := ∀ (n : Int), a.w.st n = a.w.st n
abbrev z_nar_32 (a : DkS) (n : Int) : Nt := ntOf (z_nar_15 a) n
abbrev z_nar_33 (a : DkS) (n : Int) : Int := (z_nar_32 a n).mi
abbrev z_nar_34 (a : DkS) (n : Int) : Span := (z_nar_32 a n).t
abbrev z_nar_35 (a : DkS) (n : Int) : Int := (z_nar_34 a n).lo
abbrev z_nar_36 (a : DkS) (n : Int) : Int := (z_nar_34 a n).hi
abbrev z_nar_37 (a : DkS) (n : Int) : Span := (z_nar_32 a n).s
abbrev z_nar_38 (a : DkS) (n : Int) : Int := (z_nar_37 a n).lo
abbrev z_nar_39 (a : DkS) (n : Int) : Int := (z_nar_37 a n).hi
abbrev z_nar_40 (i : Nat) (a : DkS) : Prop := i < a.w.c.ms.length
abbrev z_nar_41 (i : Nat) (a : DkS) : Prop := i < a.w.c.ns.length
abbrev z_nar_42 (a : DkS) : Int := (↑a.w.c.ms.length : Int) - (1 : Int)
abbrev z_nar_43 (a : DkS) : Int := wr (z_nar_42 a)
abbrev z_nar_44 (a : DkS) : Prop := a.w.c.ms.length = a.w.c.ms.length
abbrev z_nar_45 (a : DkS) : Prop := ∀ (i : Nat), z_nar_40 i a -> (gD a.w.c.ms i).pl = (gD a.w.c.ms i).pl /\ (gD a.w.c.ms i).ht = (gD a.w.c.ms i).ht
abbrev z_nar_46 (a : DkS) : Prop := a.w.c.ns.length = a.w.c.ns.length
abbrev z_nar_47 (a : DkS) : Prop := ∀ (i : Nat), z_nar_41 i a -> (gD a.w.c.ns i).mi = (gD a.w.c.ns i).mi /\ z_nar_21 a i = z_nar_21 a i /\ z_nar_23 a i = z_nar_23 a i /\ z_nar_26 a i = z_nar_26 a i /\ z_nar_28 a i = z_nar_28
 a i
abbrev z_nar_48 (a : DkS) : Prop := ∀ (n : Int), hasN a.w.c.ns n = hasN a.w.c.ns n
abbrev z_nar_49 (a : DkS) : Prop := ∀ (n : Int), (ntOf a.w.c.ns n).mi = (ntOf a.w.c.ns n).mi /\ (ntOf a.w.c.ns n).t.lo = (ntOf a.w.c.ns n).t.lo /\ (ntOf a.w.c.ns n).t.hi = (ntOf a.w.c.ns n).t.hi /\ (ntOf a.w.c.ns n).s.lo =
 (ntOf a.w.c.ns n).s.lo /\ (ntOf a.w.c.ns n).s.hi = (ntOf a.w.c.ns n).s.hi
abbrev z_nar_50 (a : DkS) : Prop := a.l.length = z_nar_1 a
abbrev z_nar_51 : Prop := (0 : Nat) = (0 : Nat)
abbrev z_nar_52 : Int := IntKind.i64.wrap ((↑(0 : Nat) : Int) + (1 : Int))
abbrev z_nar_53 : Prop := (0 : Int) <= (↑(0 : Nat) : Int)
abbrev z_nar_54 : Prop := (0 : Nat) < (1 : Nat)
abbrev z_nar_55 : Prop := (2 : Nat) = (2 : Nat)
abbrev z_nar_56 : Prop := (1 : Nat) <= (1 : Nat) /\ (z_nar_54 -> z_nar_55)
abbrev z_nar_57 : Prop := (True /\ ((0 : Nat) < (0 : Nat) -> (0 : Nat) = (2 : Nat))) /\ z_nar_56 /\ (true = true -> z_nar_54) /\ (1 : Nat) <= (9223372036854775807 : Nat) /\ (16 : Nat) <= (140737488355328 : Nat)
abbrev z_nar_58 (a : DkS) : Prop := z_nar_43 a = z_nar_43 a
abbrev z_nar_59 (a : Nat) : Prop := (↑a : Int) = z_nar_52
abbrev z_nar_60 (a : DkS) : Prop := a.l.length = a.l.length
abbrev z_nar_61 (a : DkS) : Prop := ∀ (i : Nat), i < a.l.length -> (gD a.l i).lo = (gD a.l i).lo /\ (gD a.l i).hi = (gD a.l i).hi
abbrev z_nar_62 (a : DkS) : Int := IntKind.i64.wrap ((gD a.w.c.ms z_nar_52.toNat).pl - (gD a.w.c.ms (0 : Nat)).pl)
abbrev z_nar_63 (a : DkS) (i : Nat) : Prop := (gapM a.w i).lo = IntKind.i64.wrap (a.w.c.p.lo * z_nar_62 a)
abbrev z_nar_64 (a : DkS) : Nat := a.w.c.ms.length - (1 : Nat)
abbrev z_nar_65 (a : Nat) (a1 : DkS) : Prop := (1 : Nat) <= a /\ a <= z_nar_64 a1
abbrev z_nar_66 (a : Nat) : Nat := (50 : Nat) - a
abbrev z_nar_67 (a : Nat) (a1 : DkS) : Prop := z_nar_65 a a1 /\ z_nar_66 a < (60 : Nat)
abbrev z_nar_68 (a : DkS) : Prop := (gapL a.w).length = (0 : Nat)
abbrev z_nar_69 (a : Nat) : Int := IntKind.i64.wrap ((↑a : Int) + (1 : Int))
abbrev z_nar_70 (a : Nat) : Prop := (0 : Int) <= z_nar_69 a
abbrev z_nar_71 (a : Nat) : Prop := (0 : Int) <= (↑a : Int)
abbrev z_nar_72 (a : Nat) : Nat := a + (1 : Nat)
abbrev z_nar_73 (a : Nat) : Prop := (a = a /\ ((0 : Nat) < a -> z_nar_55)) /\ z_nar_56 /\ (false = true -> z_nar_54) /\ z_nar_72 a <= (9223372036854775807 : Nat) /\ z_nar_72 a * (16 : Nat) <= (140737488355328 : Nat)
abbrev z_nar_74 (a : Nat) (a1 : Nat) : Prop := (↑a : Int) = z_nar_69 a1
abbrev z_nar_75 (a : Nat) (a1 : Nat) : Prop := a = z_nar_72 a1
abbrev z_nar_76 (a : DkS) (a1 : Nat) : Int := IntKind.i64.wrap ((gD a.w.c.ms (z_nar_69 a1).toNat).pl - (gD a.w.c.ms a1).pl)
abbrev z_nar_77 (a : DkS) (i : Nat) (a1 : Nat) : Prop := (gapM a.w i).lo = bif decide (i < a1) then (gapM a.w i).lo else IntKind.i64.wrap (a.w.c.p.lo * z_nar_76 a a1)
abbrev z_nar_78 (a : Nat) (a1 : Nat) : Prop := z_nar_66 a < z_nar_66 a1
abbrev z_nar_79 (a : Nat) (a1 : DkS) (a2 : Nat) : Prop := z_nar_65 a a1 /\ z_nar_78 a a2
abbrev z_nar_80 (a : Nat) : Nat := (0 : Nat) + a
abbrev z_nar_81 (a : DkS) (j : Nat) : Span := gapM a.w (z_nar_80 j)
abbrev z_nar_82 (a : DkS) : Prop := (gapL a.w).length = (gapL a.w).length
abbrev z_nar_83 (a : DkS) : Prop := ∀ (i : Nat), i < (gapL a.w).length -> (gD (gapL a.w) i).lo = (gD (gapL a.w) i).lo /\ (gD (gapL a.w) i).hi = (gD (gapL a.w) i).hi
abbrev z_nar_84 (a : DkS) : Prop := z_nar_51 /\ z_nar_60 a /\ z_nar_82 a /\ z_nar_83 a
abbrev z_nar_85 (a : DkS) : Prop := (↑(gapL a.w).length : Int) = (↑(gapL a.w).length : Int)
abbrev z_nar_86 (a : Nat) (a1 : DkS) : Prop := a.le (z_nar_64 a1)
abbrev z_nar_87 (a : Nat) (a1 : DkS) : Prop := (↑a : Int) < (↑(gapL a1.w).length : Int)
abbrev z_nar_88 (a : Nat) (a1 : DkS) : Prop := z_nar_71 a /\ (↑a : Int) < (↑a1.l.length : Int)
abbrev z_nar_89 (a : Nat) (a1 : DkS) : Prop := z_nar_80 a < a1.l.length
abbrev z_nar_90 (a : DkS) (a1 : Nat) : Span := nrF a a1 (z_nar_80 a1)
abbrev z_nar_91 (a : DkS) (a1 : Nat) : Int := IntKind.i64.wrap ((z_nar_90 a a1).lo + (gD (gapL a.w) a1).lo)
abbrev z_nar_92 (a : DkS) (a1 : Nat) : Int := IntKind.i64.wrap ((z_nar_90 a a1).hi + (gD (gapL a.w) a1).hi)
abbrev z_nar_93 (a : DkS) (a1 : Nat) : List Span := rng a.l.length λ (i : Nat) => nrF a a1 i
abbrev z_nar_94 (a : DkS) (a1 : Nat) : Nat := (z_nar_93 a a1).length
abbrev z_nar_95 (a : DkS) (a1 : Nat) : Prop := z_nar_94 a a1 = a.l.length
abbrev z_nar_96 (a : DkS) (a1 : Nat) (i : Nat) : Span := gD (z_nar_93 a a1) i
abbrev z_nar_97 (a : DkS) (a1 : Nat) : Prop := a.l.length = z_nar_94 a a1
abbrev z_nar_98 (a : DkS) (a1 : Nat) (i : Nat) : Span := upd1 (z_nar_93 a a1) (z_nar_69 a1) (Span.mk (z_nar_91 a a1) (z_nar_92 a a1)) i
abbrev z_nar_99 (a : Nat) (a1 : DkS) (a2 : Nat) : Prop := z_nar_86 a a1 /\ z_nar_78 a a2
abbrev z_nar_100 (a : DkS) (a1 : Nat) : Int := (↑a.w.c.ms.length : Int) - (2 : Int) - (↑a1 : Int)
abbrev z_nar_101 (a : DkS) (a1 : Nat) : Int := IntKind.i64.wrap (z_nar_100 a a1 + (1 : Int))
abbrev z_nar_102 (a : DkS) (a1 : Nat) : Prop := (0 : Int) <= z_nar_101 a a1 /\ z_nar_101 a a1 < (↑a.l.length : Int)
abbrev z_nar_103 (a : DkS) (a1 : Nat) : Nat := (0 : Nat) + (z_nar_101 a a1).toNat
abbrev z_nar_104 (a : DkS) (a1 : Nat) : Prop := z_nar_103 a a1 < a.l.length
abbrev z_nar_105 (a : DkS) (a1 : Nat) : Prop := (0 : Int) <= z_nar_100 a a1
abbrev z_nar_106 (a : DkS) (a1 : Nat) : Prop := z_nar_105 a a1 /\ z_nar_100 a a1 < (↑(gapL a.w).length : Int)
abbrev z_nar_107 (a : DkS) (a1 : Nat) : Span := nrB a a1 (z_nar_103 a a1)
abbrev z_nar_108 (a : DkS) (a1 : Nat) : Span := gD (gapL a.w) (z_nar_100 a a1).toNat
abbrev z_nar_109 (a : DkS) (a1 : Nat) : Int := IntKind.i64.wrap ((z_nar_107 a a1).lo - (z_nar_108 a a1).hi)
abbrev z_nar_110 (a : DkS) (a1 : Nat) : Int := IntKind.i64.wrap ((z_nar_107 a a1).hi - (z_nar_108 a a1).lo)
abbrev z_nar_111 (a : DkS) (a1 : Nat) : List Span := rng a.l.length λ (i : Nat) => nrB a a1 i
abbrev z_nar_112 (a : DkS) (a1 : Nat) : Nat := (z_nar_111 a a1).length
abbrev z_nar_113 (a : DkS) (a1 : Nat) : Prop := z_nar_112 a a1 = a.l.length
abbrev z_nar_114 (a : DkS) (a1 : Nat) (i : Nat) : Span := gD (z_nar_111 a a1) i
abbrev z_nar_115 (a : DkS) (a1 : Nat) (i : Nat) : Int := (z_nar_114 a a1 i).lo
abbrev z_nar_116 (a : DkS) (a1 : Nat) (i : Nat) : Int := (z_nar_114 a a1 i).hi
abbrev z_nar_117 (a : DkS) (a1 : Nat) : Prop := ∀ (i : Nat), i < z_nar_112 a a1 -> z_nar_115 a a1 i = (nrB a a1 i).lo /\ z_nar_116 a a1 i = (nrB a a1 i).hi
abbrev z_nar_118 (a : DkS) (a1 : Nat) : Prop := a.l.length = z_nar_112 a a1
abbrev z_nar_119 (a : DkS) (a1 : Nat) (i : Nat) : Span := upd1 (z_nar_111 a a1) (z_nar_100 a a1) (Span.mk (z_nar_109 a a1) (z_nar_110 a a1)) i
abbrev z_nar_120 (a : DkS) (a1 : Nat) (j : Nat) : Span := nrB a a1 (z_nar_80 j)
abbrev z_nar_121 (a : DkS) : Prop := ∀ (a_1 : One), True -> (∃ (a_3 : One), (z_nar_5 a /\ z_nar_6 a /\ z_nar_7 a /\ z_nar_8 a /\ z_nar_9 a /\ z_nar_44 a /\ z_nar_45 a /\ z_nar_46 a /\ z_nar_47 a /\ z_nar_29 a /\ zNt = zNt /\
 z_nar_48 a /\ z_nar_31 a /\ z_nar_49 a /\ z_nar_60 a /\ z_nar_61 a /\ z_nar_84 a) /\ True) /\ ∀ (a_3 : One), True -> (∃ (a_5 : Nat), (z_nar_82 a /\ z_nar_83 a /\ z_nar_85 a /\ (↑a_5 : Int) = (0 : Int) /\ z_nar_5 a /\ z_nar_6 a /\
 z_nar_7 a /\ z_nar_8 a /\ z_nar_9 a /\ z_nar_44 a /\ z_nar_45 a /\ z_nar_46 a /\ z_nar_47 a /\ z_nar_29 a /\ zNt = zNt /\ z_nar_48 a /\ z_nar_31 a /\ z_nar_49 a /\ z_nar_60 a /\ (∀ (i : Nat), i < a.l.length -> (nrF a a_5 i).lo = (gD
 a.l i).lo /\ (nrF a a_5 i).hi = (gD a.l i).hi) /\ z_nar_84 a) /\ z_nar_86 a_5 a) /\ ∀ (a_5 : Nat), z_nar_86 a_5 a -> bif decide (z_nar_87 a_5 a) then (z_nar_71 a_5 /\ z_nar_87 a_5 a) /\ (z_nar_88 a_5 a /\ z_nar_89 a_5 a /\
 z_nar_88 a_5 a /\ z_nar_89 a_5 a /\ z_nar_69 a_5 = z_nar_69 a_5 /\ z_nar_91 a a_5 = z_nar_91 a a_5 /\ z_nar_92 a a_5 = z_nar_92 a a_5 /\ z_nar_51 /\ z_nar_95 a a_5 /\ z_nar_95 a a_5 /\ (∀ (i : Nat), i < z_nar_94 a a_5 ->
 (z_nar_96 a a_5 i).lo = (nrF a a_5 i).lo /\ (z_nar_96 a a_5 i).hi = (nrF a a_5 i).hi) /\ z_nar_51 /\ z_nar_97 a a_5 /\ z_nar_70 a_5 /\ z_nar_69 a_5 < (↑(z_nar_94 a a_5) : Int)) /\ ∃ (a_7 : Nat), (z_nar_82 a /\ z_nar_83 a /\
 z_nar_85 a /\ z_nar_74 a_7 a_5 /\ z_nar_5 a /\ z_nar_6 a /\ z_nar_7 a /\ z_nar_8 a /\ z_nar_9 a /\ z_nar_44 a /\ z_nar_45 a /\ z_nar_46 a /\ z_nar_47 a /\ z_nar_29 a /\ zNt = zNt /\ z_nar_48 a /\ z_nar_31 a /\ z_nar_49 a /\ z_nar_97 a
 a_5 /\ (∀ (i : Nat), i < a.l.length -> (nrF a a_7 i).lo = (z_nar_98 a a_5 i).lo /\ (nrF a a_7 i).hi = (z_nar_98 a a_5 i).hi) /\ z_nar_84 a) /\ z_nar_99 a_7 a a_5 else (∃ (a_7 : Nat), (z_nar_100 a a_7 = IntKind.i64.wrap
 ((↑(gapL a.w).length : Int) - (1 : Int)) /\ z_nar_5 a /\ z_nar_6 a /\ z_nar_7 a /\ z_nar_8 a /\ z_nar_9 a /\ z_nar_44 a /\ z_nar_45 a /\ z_nar_46 a /\ z_nar_47 a /\ z_nar_29 a /\ zNt = zNt /\ z_nar_48 a /\ z_nar_31 a /\ z_nar_49 a /\
 z_nar_60 a /\ (∀ (i : Nat), i < a.l.length -> (nrB a a_7 i).lo = (nrF a a_5 i).lo /\ (nrB a a_7 i).hi = (nrF a a_5 i).hi) /\ z_nar_84 a) /\ z_nar_86 a_7 a) /\ ∀ (a_7 : Nat), z_nar_86 a_7 a -> bif decide (z_nar_100 a a_7 >= (0 :
 Int)) then (z_nar_102 a a_7 /\ z_nar_104 a a_7 /\ z_nar_106 a a_7 /\ z_nar_102 a a_7 /\ z_nar_104 a a_7 /\ z_nar_106 a a_7 /\ z_nar_100 a a_7 = z_nar_100 a a_7 /\ z_nar_109 a a_7 = z_nar_109 a a_7 /\ z_nar_110 a a_7 = z_nar_110
 a a_7 /\ z_nar_51 /\ z_nar_113 a a_7 /\ z_nar_113 a a_7 /\ z_nar_117 a a_7 /\ z_nar_51 /\ z_nar_118 a a_7 /\ z_nar_105 a a_7 /\ z_nar_100 a a_7 < (↑(z_nar_112 a a_7) : Int)) /\ ∃ (a_9 : Nat), (z_nar_100 a a_9 = IntKind.i64.wrap
 (z_nar_100 a a_7 - (1 : Int)) /\ z_nar_5 a /\ z_nar_6 a /\ z_nar_7 a /\ z_nar_8 a /\ z_nar_9 a /\ z_nar_44 a /\ z_nar_45 a /\ z_nar_46 a /\ z_nar_47 a /\ z_nar_29 a /\ zNt = zNt /\ z_nar_48 a /\ z_nar_31 a /\ z_nar_49 a /\ z_nar_118 a
 a_7 /\ (∀ (i : Nat), i < a.l.length -> (nrB a a_9 i).lo = (z_nar_119 a a_7 i).lo /\ (nrB a a_9 i).hi = (z_nar_119 a a_7 i).hi) /\ z_nar_84 a) /\ z_nar_99 a_9 a a_7 else (z_nar_51 /\ z_nar_113 a a_7 /\ z_nar_113 a a_7 /\
 z_nar_117 a a_7 /\ z_nar_118 a a_7 /\ (∀ (i : Nat), i < a.l.length -> (nrB a a_7 i).lo = z_nar_115 a a_7 i /\ (nrB a a_7 i).hi = z_nar_116 a a_7 i) /\ z_nar_112 a a_7 < (4611686018427387904 : Nat) /\ True) /\ (narL a.w
 a.l).length = a.l.length /\ (0 : Nat) + a.l.length <= a.l.length /\ (∀ (j : Nat), j < (narL a.w a.l).length -> (gD (narL a.w a.l) j).lo = (z_nar_120 a a_7 j).lo /\ (gD (narL a.w a.l) j).hi = (z_nar_120 a a_7 j).hi) /\ (narL
 a.w a.l).all leM = (z_nar_111 a a_7).all leM /\ z_nar_5 a /\ z_nar_6 a /\ z_nar_7 a /\ z_nar_8 a /\ z_nar_9 a /\ z_nar_44 a /\ z_nar_45 a /\ z_nar_46 a /\ z_nar_47 a /\ z_nar_29 a /\ zNt = zNt /\ z_nar_48 a /\ z_nar_31 a /\ z_nar_49 a
theorem vc_nar (a : DkS) : (V_nar a) = ((z_nar_1 a = a.l.length /\ (∀ (i : Nat), i < z_nar_1 a -> z_nar_3 a i = (gD a.l i).lo /\ z_nar_4 a i = (gD a.l i).hi) /\ (0 : Nat) < z_nar_1 a /\ z_nar_1 a < (1073741824 : Nat)) /\
 ((z_nar_5 a /\ z_nar_6 a /\ z_nar_7 a /\ z_nar_8 a /\ z_nar_9 a /\ z_nar_11 a = a.w.c.ms.length /\ (∀ (i : Nat), i < z_nar_11 a -> z_nar_13 a i = (gD a.w.c.ms i).pl /\ z_nar_14 a i = (gD a.w.c.ms i).ht) /\ z_nar_16 a =
 a.w.c.ns.length /\ (∀ (i : Nat), i < z_nar_16 a -> z_nar_18 a i = (gD a.w.c.ns i).mi /\ z_nar_20 a i = z_nar_21 a i /\ z_nar_22 a i = z_nar_23 a i /\ z_nar_25 a i = z_nar_26 a i /\ z_nar_27 a i = z_nar_28 a i) /\ z_nar_29 a /\
 zNt = zNt /\ (∀ (n : Int), z_nar_30 a n = hasN a.w.c.ns n) /\ z_nar_31 a /\ (∀ (n : Int), z_nar_33 a n = (ntOf a.w.c.ns n).mi /\ z_nar_35 a n = (ntOf a.w.c.ns n).t.lo /\ z_nar_36 a n = (ntOf a.w.c.ns n).t.hi /\ z_nar_38 a n =
 (ntOf a.w.c.ns n).s.lo /\ z_nar_39 a n = (ntOf a.w.c.ns n).s.hi) /\ z_nar_5 a /\ z_nar_6 a /\ z_nar_7 a /\ z_nar_8 a /\ z_nar_9 a /\ a.w.c.ms.length = z_nar_11 a /\ (∀ (i : Nat), z_nar_40 i a -> (gD a.w.c.ms i).pl = z_nar_13 a i
 /\ (gD a.w.c.ms i).ht = z_nar_14 a i) /\ a.w.c.ns.length = z_nar_16 a /\ (∀ (i : Nat), z_nar_41 i a -> (gD a.w.c.ns i).mi = z_nar_18 a i /\ z_nar_21 a i = z_nar_20 a i /\ z_nar_23 a i = z_nar_22 a i /\ z_nar_26 a i = z_nar_25 a
 i /\ z_nar_28 a i = z_nar_27 a i) /\ z_nar_29 a /\ zNt = zNt /\ (∀ (n : Int), hasN a.w.c.ns n = z_nar_30 a n) /\ z_nar_31 a /\ ∀ (n : Int), (ntOf a.w.c.ns n).mi = z_nar_33 a n /\ (ntOf a.w.c.ns n).t.lo = z_nar_35 a n /\ (ntOf
 a.w.c.ns n).t.hi = z_nar_36 a n /\ (ntOf a.w.c.ns n).s.lo = z_nar_38 a n /\ (ntOf a.w.c.ns n).s.hi = z_nar_39 a n) /\ ∀ (l : Nat), (∃ (a_1 : One), (Fn.yield l = Fn.yield l /\ z_nar_43 a = IntKind.i64.wrap (z_nar_42 a) /\
 Int.ofNat (0 : Nat) = Int.ofNat (0 : Nat) /\ z_nar_5 a /\ z_nar_6 a /\ z_nar_7 a /\ z_nar_8 a /\ z_nar_9 a /\ z_nar_44 a /\ z_nar_45 a /\ z_nar_46 a /\ z_nar_47 a /\ z_nar_29 a /\ zNt = zNt /\ z_nar_48 a /\ z_nar_31 a /\ z_nar_49 a /\
 z_nar_50 a /\ (∀ (i : Nat), i < a.l.length -> (gD a.l i).lo = z_nar_3 a i /\ (gD a.l i).hi = z_nar_4 a i) /\ z_nar_51 /\ z_nar_50 a /\ z_nar_51 /\ ∀ (i : Nat), i < (0 : Nat) -> false = false) /\ True) /\ (∀ (a_1 : One), True -> bif
 decide ((↑(0 : Nat) : Int) < z_nar_43 a) then (((0 : Int) <= z_nar_52 /\ z_nar_52 < (↑a.w.c.ms.length : Int)) /\ z_nar_53 /\ (↑(0 : Nat) : Int) < (↑a.w.c.ms.length : Int)) /\ (z_nar_53 /\ (↑(0 : Nat) : Int) < (↑(40 : Nat) :
 Int)) /\ (Nat.succ (0 : Nat)).le (40 : Nat) /\ bif a.w.sp (0 : Nat) then l = l /\ z_nar_57 /\ ∃ (a_3 : Nat), (Fn.yield l = Fn.yield l /\ z_nar_58 a /\ z_nar_59 a_3 /\ z_nar_5 a /\ z_nar_6 a /\ z_nar_7 a /\ z_nar_8 a /\ z_nar_9 a /\
 z_nar_44 a /\ z_nar_45 a /\ z_nar_46 a /\ z_nar_47 a /\ z_nar_29 a /\ zNt = zNt /\ z_nar_48 a /\ z_nar_31 a /\ z_nar_49 a /\ z_nar_60 a /\ z_nar_61 a /\ z_nar_51 /\ z_nar_60 a /\ z_nar_51 /\ a_3 = (1 : Nat) /\ a_3 = (1 : Nat) /\ ∀ (i :
 Nat), i < a_3 -> z_nar_63 a i /\ (gapM a.w i).hi = (200000000 : Int)) /\ z_nar_67 a_3 a else l = l /\ z_nar_57 /\ ∃ (a_3 : Nat), (Fn.yield l = Fn.yield l /\ z_nar_58 a /\ z_nar_59 a_3 /\ z_nar_5 a /\ z_nar_6 a /\ z_nar_7 a /\
 z_nar_8 a /\ z_nar_9 a /\ z_nar_44 a /\ z_nar_45 a /\ z_nar_46 a /\ z_nar_47 a /\ z_nar_29 a /\ zNt = zNt /\ z_nar_48 a /\ z_nar_31 a /\ z_nar_49 a /\ z_nar_60 a /\ z_nar_61 a /\ z_nar_51 /\ z_nar_60 a /\ z_nar_51 /\ a_3 = (1 : Nat) /\
 a_3 = (1 : Nat) /\ ∀ (i : Nat), i < a_3 -> z_nar_63 a i /\ (gapM a.w i).hi = IntKind.i64.wrap (a.w.c.p.hi * z_nar_62 a)) /\ z_nar_67 a_3 a else ∃ (a_3 : One), (z_nar_5 a /\ z_nar_6 a /\ z_nar_7 a /\ z_nar_8 a /\ z_nar_9 a /\
 z_nar_44 a /\ z_nar_45 a /\ z_nar_46 a /\ z_nar_47 a /\ z_nar_29 a /\ zNt = zNt /\ z_nar_48 a /\ z_nar_31 a /\ z_nar_49 a /\ z_nar_60 a /\ z_nar_61 a /\ z_nar_51 /\ z_nar_60 a /\ z_nar_68 a /\ z_nar_68 a) /\ True) /\ ∀ (a_1 : Nat),
 z_nar_65 a_1 a -> bif decide ((↑a_1 : Int) < z_nar_43 a) then ((z_nar_70 a_1 /\ z_nar_69 a_1 < (↑a.w.c.ms.length : Int)) /\ z_nar_71 a_1 /\ (↑a_1 : Int) < (↑a.w.c.ms.length : Int)) /\ (z_nar_71 a_1 /\ (↑a_1 : Int) < (↑(40 :
 Nat) : Int)) /\ a_1.succ.le (40 : Nat) /\ bif a.w.sp a_1 then l = l /\ z_nar_73 a_1 /\ ∃ (a_3 : Nat), (Fn.yield l = Fn.yield l /\ z_nar_58 a /\ z_nar_74 a_3 a_1 /\ z_nar_5 a /\ z_nar_6 a /\ z_nar_7 a /\ z_nar_8 a /\ z_nar_9 a /\
 z_nar_44 a /\ z_nar_45 a /\ z_nar_46 a /\ z_nar_47 a /\ z_nar_29 a /\ zNt = zNt /\ z_nar_48 a /\ z_nar_31 a /\ z_nar_49 a /\ z_nar_60 a /\ z_nar_61 a /\ z_nar_51 /\ z_nar_60 a /\ z_nar_51 /\ z_nar_75 a_3 a_1 /\ z_nar_75 a_3 a_1 /\ ∀ (i
 : Nat), i < a_3 -> z_nar_77 a i a_1 /\ (gapM a.w i).hi = bif decide (i < a_1) then (gapM a.w i).hi else (200000000 : Int)) /\ z_nar_79 a_3 a a_1 else l = l /\ z_nar_73 a_1 /\ ∃ (a_3 : Nat), (Fn.yield l = Fn.yield l /\ z_nar_58
 a /\ z_nar_74 a_3 a_1 /\ z_nar_5 a /\ z_nar_6 a /\ z_nar_7 a /\ z_nar_8 a /\ z_nar_9 a /\ z_nar_44 a /\ z_nar_45 a /\ z_nar_46 a /\ z_nar_47 a /\ z_nar_29 a /\ zNt = zNt /\ z_nar_48 a /\ z_nar_31 a /\ z_nar_49 a /\ z_nar_60 a /\ z_nar_61
 a /\ z_nar_51 /\ z_nar_60 a /\ z_nar_51 /\ z_nar_75 a_3 a_1 /\ z_nar_75 a_3 a_1 /\ ∀ (i : Nat), i < a_3 -> z_nar_77 a i a_1 /\ (gapM a.w i).hi = bif decide (i < a_1) then (gapM a.w i).hi else IntKind.i64.wrap (a.w.c.p.hi *
 z_nar_76 a a_1)) /\ z_nar_79 a_3 a a_1 else ∃ (a_3 : One), (z_nar_5 a /\ z_nar_6 a /\ z_nar_7 a /\ z_nar_8 a /\ z_nar_9 a /\ z_nar_44 a /\ z_nar_45 a /\ z_nar_46 a /\ z_nar_47 a /\ z_nar_29 a /\ zNt = zNt /\ z_nar_48 a /\ z_nar_31 a
 /\ z_nar_49 a /\ z_nar_60 a /\ z_nar_61 a /\ z_nar_51 /\ z_nar_60 a /\ (gapL a.w).length = a_1 /\ z_nar_80 a_1 <= a_1 /\ ∀ (j : Nat), j < (gapL a.w).length -> (gD (gapL a.w) j).lo = (z_nar_81 a j).lo /\ (gD (gapL a.w) j).hi =
 (z_nar_81 a j).hi) /\ True) /\ z_nar_121 a /\ z_nar_121 a) := by kernel_rfl
theorem upd1_at {L : Nat} {f : Nat -> Span} {k : Int} {s : Span} {i : Nat} (hi : i < L) (hk : k.toNat < L) : upd1 (rng L f) k s i = bif decide (i = k.toNat) then com (f k.toNat) s else f i := by
 unfold upd1; rw [rng_get _ _ _ hi, rng_get _ _ _ hk]
theorem nrF_step (a : DkS) {k i : Nat} (hk : k + 1 < a.l.length) (hi : i < a.l.length) : nrF a (k + 1) i = upd1 (rng a.l.length λ i => nrF a k i) ((k + 1 : Nat) : Int) (addS (nrF a k k) (gapM a.w k)) i := by
 rw [upd1_at hi (by show k + 1 < _; exact hk)]
 show _ = bif decide (i = k + 1) then com (nrF a k (k + 1)) _ else _
 by_cases h : i = k + 1
 ·subst h
  simp only [nrF, Nat.le_refl, decide_true, cond_true, show ¬ k + 1 <= k by omega, decide_false, cond_false]
  rfl
 ·have e : decide (i <= k + 1) = decide (i <= k) := by rw [decide_eq_decide]; omega
  simp only [nrF, h, e, decide_false, cond_false]
theorem nrB_step (a : DkS) {j i : Nat} (hl : a.l.length = a.w.c.ms.length) (hj : j + 2 <= a.l.length) (hi : i < a.l.length) : nrB a (j + 1) i = upd1 (rng a.l.length λ i => nrB a j i) ((a.w.c.ms.length - 2 - j : Nat) : Int) (subS (nrB a j (a.w.c.ms.length - 2 - j + 1)) (gapM a.w (a.w.c.ms.length - 2 - j))) i := by
 rw [upd1_at hi (by show a.w.c.ms.length - 2 - j < _; omega)]
 show _ = bif decide (i = a.w.c.ms.length - 2 - j) then com (nrB a j (a.w.c.ms.length - 2 - j)) _ else _
 by_cases h : i = a.w.c.ms.length - 2 - j
 ·have e1 : decide (a.w.c.ms.length - 1 - (j + 1) <= i) = true := by rw [decide_eq_true_eq]; omega
  have e2 : decide (a.w.c.ms.length - 1 - j <= a.w.c.ms.length - 2 - j) = false := by rw [decide_eq_false_iff_not]; omega
  have e3 : decide (a.w.c.ms.length - 1 - j <= a.w.c.ms.length - 2 - j + 1) = true := by rw [decide_eq_true_eq]; omega
  have e4 : a.w.c.ms.length - 1 - i = j + 1 := by omega
  have e5 : a.w.c.ms.length - 1 - (a.w.c.ms.length - 2 - j + 1) = j := by omega
  have e6 : a.w.c.ms.length - 1 - (j + 1) = a.w.c.ms.length - 2 - j := by omega
  have e7 : decide (i = a.w.c.ms.length - 2 - j) = true := by rw [decide_eq_true_eq]; exact h
  have e8 : decide (a.w.c.ms.length - 2 - j <= i) = true := by rw [decide_eq_true_eq]; omega
  rw [e7]
  simp only [nrB, e2, e3, e4, e5, cond_true, cond_false, bkM, e6, e8]
 ·have e1 : decide (a.w.c.ms.length - 1 - (j + 1) <= i) = decide (a.w.c.ms.length - 1 - j <= i) := by rw [decide_eq_decide]; omega
  simp only [nrB, h, e1, decide_false, cond_false]
theorem p_nar (a : DkS) (h : a.l.length = a.w.c.ms.length /\ 1 <= a.w.c.ms.length /\ a.w.c.ms.length <= 40) : V_nar a := by
 obtain ⟨hl, h1, h2⟩ := h
 have e1 : wr ((a.w.c.ms.length : Int) - 1) = ((a.w.c.ms.length - 1 : Nat) : Int) := by unfold wr; rw [w64 (by omega) (by omega)]; omega
 have e2 : IntKind.i64.wrap ((a.w.c.ms.length : Int) - 1) = ((a.w.c.ms.length - 1 : Nat) : Int) := e1
 have gl : (gapL a.w).length = a.w.c.ms.length - 1 := rng_length _ _
 have gg : ∀ {j : Nat}, j < a.w.c.ms.length - 1 -> gD (gapL a.w) j = gapM a.w j := λ hj => rng_get _ _ _ hj
 have lo : ∀ k, (gapM a.w k).lo = IntKind.i64.wrap (a.w.c.p.lo * IntKind.i64.wrap ((gD a.w.c.ms (k + 1)).pl - (gD a.w.c.ms k).pl)) := λ _ => rfl
 have hi1 : ∀ k, a.w.sp k = true -> (gapM a.w k).hi = 200000000 := λ k h => by unfold gapM; rw [h]; rfl
 have hi0 : ∀ k, a.w.sp k = false -> (gapM a.w k).hi = IntKind.i64.wrap (a.w.c.p.hi * IntKind.i64.wrap ((gD a.w.c.ms (k + 1)).pl - (gD a.w.c.ms k).pl)) := λ k h => by unfold gapM; rw [h]; rfl
 have ws : ∀ {k : Nat}, k < 40 -> IntKind.i64.wrap ((k : Int) + 1) = ((k + 1 : Nat) : Int) := λ h => wsucc (by omega)
 rw [vc_nar]; delta z_nar_0 z_nar_1 z_nar_2 z_nar_3 z_nar_4 z_nar_5 z_nar_6 z_nar_7 z_nar_8 z_nar_9 z_nar_10 z_nar_11 z_nar_12 z_nar_13 z_nar_14 z_nar_15 z_nar_16 z_nar_17 z_nar_18 z_nar_19 z_nar_20 z_nar_21 z_nar_22 z_nar_23 z_nar_24 z_nar_25 z_nar_26 z_nar_27 z_nar_28 z_nar_29 z_nar_30 z_nar_31 z_nar_32 z_nar_33 z_nar_34 z_nar_35 z_nar_36 z_nar_37 z_nar_38 z_nar_39 z_nar_40 z_nar_41 z_nar_42 z_nar_43 z_nar_44 z_nar_45 z_nar_46 z_nar_47 z_nar_48 z_nar_49 z_nar_50 z_nar_51 z_nar_52 z_nar_53 z_nar_54 z_nar_55 z_nar_56 z_nar_57 z_nar_58 z_nar_59 z_nar_60 z_nar_61 z_nar_62 z_nar_63 z_nar_64 z_nar_65 z_nar_66 z_nar_67 z_nar_68 z_nar_69 z_nar_70 z_nar_71 z_nar_72 z_nar_73 z_nar_74 z_nar_75 z_nar_76 z_nar_77 z_nar_78 z_nar_79 z_nar_80 z_nar_81 z_nar_82 z_nar_83 z_nar_84 z_nar_85 z_nar_86 z_nar_87 z_nar_88 z_nar_89 z_nar_90 z_nar_91 z_nar_92 z_nar_93 z_nar_94 z_nar_95 z_nar_96 z_nar_97 z_nar_98 z_nar_99 z_nar_100 z_nar_101 z_nar_102 z_nar_103 z_nar_104 z_nar_105 z_nar_106 z_nar_107 z_nar_108 z_nar_109 z_nar_110 z_nar_111 z_nar_112 z_nar_113 z_nar_114 z_nar_115 z_nar_116 z_nar_117 z_nar_118 z_nar_119 z_nar_120 z_nar_121; simp only [condP, eq_self, implies_true, and_self, true_and, and_true, true_implies, forall_const, decide_eq_true_eq, decide_eq_false_iff_not, Int.toNat_natCast, dSpan_eSpan, dInt_eInt, dMk_e, dNt_e, dPr_e, Nat.zero_add, Int.zero_sub, Nat.le_eq, Nat.succ_eq_add_one, Nat.add_one_le_iff, Bool.not_eq_true', Bool.not_eq_false', rng_length, dSpan_mk, rng_getD]; simp only [e1, e2, gl, hl]
 refine ⟨by omega, ⟨⟨default, trivial⟩, ⟨λ h0 => ?_, λ h0 => ⟨default, by omega⟩⟩, λ k hk => ⟨λ hlt => ?_, λ hge => ⟨default, by omega, Nat.le_refl _, λ j hj => by rw [gg hj]; exact ⟨rfl, rfl⟩⟩⟩⟩, ⟨default, trivial⟩, ⟨0, ⟨rfl, λ i hi => ?_⟩, Nat.zero_le _⟩, λ k hk => ⟨λ hlt => ?_, λ hge => ⟨⟨0, ⟨?_, λ i hi => ?_⟩, Nat.zero_le _⟩, λ j hj => ⟨λ hlt => ?_, λ hlt => ?_⟩⟩⟩⟩
 ·simp only [ws (show (0 : Nat) < 40 by omega), Int.toNat_natCast]
  refine ⟨by omega, by omega, by omega, λ h => ⟨by simp, 1, ⟨rfl, rfl, rfl, λ i hi => ?_⟩, by omega, by omega⟩, λ h => ⟨by simp, 1, ⟨rfl, rfl, rfl, λ i hi => ?_⟩, by omega, by omega⟩⟩
  ·obtain rfl : i = 0 := by omega
   exact ⟨lo 0, hi1 0 h⟩
  ·obtain rfl : i = 0 := by omega
   exact ⟨lo 0, hi0 0 h⟩
 ·simp only [ws (show k < 40 by omega), Int.toNat_natCast]
  refine ⟨by omega, by omega, by omega, λ h => ⟨⟨by omega, (λ h => by cases h), by omega, by omega⟩, k + 1, ⟨rfl, rfl, rfl, λ i hi => ?_⟩, by omega, by omega⟩, λ h => ⟨⟨by omega, (λ h => by cases h), by omega, by omega⟩, k + 1, ⟨rfl, rfl, rfl, λ i hi => ?_⟩, by omega, by omega⟩⟩
  ·by_cases q : i < k
   ·simp only [q, decide_true, cond_true, and_self]
   ·obtain rfl : i = k := by omega
    simp only [q, decide_false, cond_false]
    exact ⟨lo i, hi1 i h⟩
  ·by_cases q : i < k
   ·simp only [q, decide_true, cond_true, and_self]
   ·obtain rfl : i = k := by omega
    simp only [q, decide_false, cond_false]
    exact ⟨lo i, hi0 i h⟩
 ·by_cases q : i = 0
  ·subst q; exact ⟨rfl, rfl⟩
  ·have : ¬ i <= 0 := by omega
   simp only [nrF, this, decide_false, cond_false, and_self]
 ·simp only [ws (show k < 40 by omega)]
  refine ⟨by omega, ⟨by omega, by omega, by omega, by omega, λ i hi => by rw [rng_get _ _ _ hi]; exact ⟨rfl, rfl⟩, by omega, by omega⟩, k + 1, ⟨rfl, λ i hi => ?_⟩, by omega, by omega⟩
  have e := nrF_step a (k := k) (i := i) (by omega) (by omega)
  rw [gg (by omega), e, hl]; exact ⟨rfl, rfl⟩
 ·rw [w64 (by omega) (by omega)]; omega
 ·obtain rfl : k = a.w.c.ms.length - 1 := by omega
  have q1 : decide (i <= a.w.c.ms.length - 1) = true := by rw [decide_eq_true_eq]; omega
  unfold nrB nrF; rw [q1]
  by_cases q : a.w.c.ms.length - 1 - 0 <= i
  ·have q2 : a.w.c.ms.length - 1 - i = 0 := by omega
   have q3 : i = a.w.c.ms.length - 1 := by omega
   simp only [q, decide_true, cond_true, q2, bkM]; rw [<- q3]; exact ⟨rfl, rfl⟩
  ·simp only [q, decide_false, cond_false, cond_true, and_self]
 ·have g0 : (a.w.c.ms.length : Int) - 2 - j = ((a.w.c.ms.length - 2 - j : Nat) : Int) := by omega
  have g1 : IntKind.i64.wrap (((a.w.c.ms.length - 2 - j : Nat) : Int) + 1) = ((a.w.c.ms.length - 2 - j + 1 : Nat) : Int) := ws (by omega)
  simp only [g0, g1, Int.toNat_natCast]
  refine ⟨⟨by omega, by omega, by omega, by omega, by omega, by omega, λ i hi => by rw [rng_get _ _ _ hi]; exact ⟨rfl, rfl⟩, by omega, by omega⟩, j + 1, ⟨?_, λ i hi => ?_⟩, by omega, by omega⟩
  ·rw [w64 (by omega) (by omega)]; omega
  ·have e := nrB_step a (j := j) (i := i) hl (by omega) (by omega)
   rw [gg (by omega), e, hl]; exact ⟨rfl, rfl⟩
 ·have q : j = a.w.c.ms.length - 1 := by omega
  have eq1 : ∀ i, i < a.w.c.ms.length -> gD (narL a.w a.l) i = nrB a j i := λ i hi => by
   unfold narL; rw [rng_get _ _ _ (by omega), hl]
   have q2 : decide (a.w.c.ms.length - 1 - j <= i) = true := by rw [decide_eq_true_eq]; omega
   unfold nrB; rw [q2]; rfl
  have nl : (narL a.w a.l).length = a.w.c.ms.length := by unfold narL; rw [rng_length, hl]
  refine ⟨⟨λ i hi => by rw [rng_get _ _ _ hi]; exact ⟨rfl, rfl⟩, λ i hi => by rw [rng_get _ _ _ hi]; exact ⟨rfl, rfl⟩, by omega⟩, nl, Nat.le_refl _, λ i hi => by rw [eq1 i (by omega)]; exact ⟨rfl, rfl⟩, ?_⟩
  congr 1
  exact gD_ext (by rw [nl, rng_length]) λ i hi => by rw [eq1 i (by omega), rng_get _ _ _ (by omega)]
theorem ok_nar : SpecOk Try.prog n_narrowed (C_nar.spec dDkS) := okC C_nar A_nar [] [2016] fn_narrowed (λ _ => by kernel_rfl) (λ _ => gok_cons ok_clo (gok_cons ok_gaps (gok_cons ok_nar1 (gok_cons ok4SnO gok_nil)))) (λ a h => p_nar a h) (λ a => iterI n_gaps1 (itGap a) rfl rfl gok_nil fn_gaps1 (by kernel_rfl) (by kernel_rfl)) _
end Go.Bal
