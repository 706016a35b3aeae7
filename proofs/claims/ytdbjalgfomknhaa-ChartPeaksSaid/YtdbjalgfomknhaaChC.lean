/- Package chart: stages. -/
import Derived.Test.YtdbjalgfomknhaaChB
import Derived.Test.YtdbjalgfomknhaaSym11
set_option linter.unusedVariables false
set_option linter.unusedSimpArgs false
namespace Go.Bal
open Go Go.Sym Go.Proofs
def atM (c : Cht) (k : Int) : Int := wr (c.base + wr (c.scale * (gD c.ms k.toNat).ht))
def st0 (c : Cht) (k : Int) : Span := ⟨wr (atM c k - c.off), wr (atM c k + c.off)⟩
def stgM (c : Cht) (k : Int) : Span := bif hasN c.ns k then com (st0 c k) (ntOf c.ns k).s else st0 c k
structure DkI where
 w : Dk
 k : Int
def dDkI : List AVal -> Heap -> Option (DkI × List (Nat × Nat) × List Nat)
 | [.bptr id _, .d k], H => match decDk H id with
  | some (w, q) => some (⟨w, dInt k⟩, [(100, id), (101, q)], [])
  | none => none
 | _, _ => none
def C_stg : Ctr := { ro := [100, 101], α := DkI, xs := λ a => [.bptr 100 0, .int a.k], L := λ a => dkL a.w, val := λ a => .d (eSpan (stgM a.w.c a.k)), keep := λ a => dkK a.w, pre := λ a => [0 <= a.k /\ a.k < a.w.c.ms.length] }
def A_stg : Ann := { ann 61 [(n_common, C_com.spec d_com)] with E := [100, 101] }
def V_stg (a : DkI) : Prop := fnVC Try.prog A_stg F_stages (bodyOf F_stages) (C_stg.xs a) (heapOf (C_stg.L a)) (C_stg.val a) (C_stg.keep a) [] []
abbrev z_stg_0 (a : DkI) : Int := IntKind.i64.wrap (a.w.c.base + IntKind.i64.wrap (a.w.c.scale * (gD a.w.c.ms a.k.toNat).ht))
abbrev z_stg_1 (a : DkI) : Int := IntKind.i64.wrap (z_stg_0 a - a.w.c.off)
abbrev z_stg_2 (a : DkI) : Int := IntKind.i64.wrap (z_stg_0 a + a.w.c.off)
abbrev z_stg_3 (a : DkI) : List Span := rng 1 λ (i : Nat) => (ntOf a.w.c.ns a.k).s
abbrev z_stg_4 (a : DkI) : Nat := (z_stg_3 a).length
abbrev z_stg_5 (a : DkI) (j : Nat) : Span := gD (z_stg_3 a) j
abbrev z_stg_6 (a : DkI) : Span := comM (SL.mk (Span.mk (z_stg_1 a) (z_stg_2 a)) (z_stg_3 a))
abbrev z_stg_7 (a : DkI) (i : Nat) : Int := (gD a.w.c.ns i).t.lo
abbrev z_stg_8 (a : DkI) (i : Nat) : Int := (gD a.w.c.ns i).t.hi
abbrev z_stg_9 (a : DkI) (i : Nat) : Int := (gD a.w.c.ns i).s.lo
abbrev z_stg_10 (a : DkI) (i : Nat) : Int := (gD a.w.c.ns i).s.hi
abbrev z_stg_11 (a : DkI) : Prop := a.w.c.p.lo = a.w.c.p.lo /\ a.w.c.p.hi = a.w.c.p.hi /\ a.w.c.base = a.w.c.base /\ a.w.c.scale = a.w.c.scale /\ a.w.c.off = a.w.c.off /\ a.w.c.ms.length = a.w.c.ms.length /\ (∀ (i : Nat), i <
 a.w.c.ms.length -> (gD a.w.c.ms i).pl = (gD a.w.c.ms i).pl /\ (gD a.w.c.ms i).ht = (gD a.w.c.ms i).ht) /\ a.w.c.ns.length = a.w.c.ns.length /\ (∀ (i : Nat), i < a.w.c.ns.length -> (gD a.w.c.ns i).mi = (gD a.w.c.ns i).mi /\
 z_stg_7 a i = z_stg_7 a i /\ z_stg_8 a i = z_stg_8 a i /\ z_stg_9 a i = z_stg_9 a i /\ z_stg_10 a i = z_stg_10 a i) /\ (∀ (i : Nat), i < 40 -> a.w.sp i = a.w.sp i) /\ zNt = zNt /\ (∀ (n : Int), hasN a.w.c.ns n = hasN a.w.c.ns
 n) /\ (∀ (n : Int), a.w.st n = a.w.st n) /\ ∀ (n : Int), (ntOf a.w.c.ns n).mi = (ntOf a.w.c.ns n).mi /\ (ntOf a.w.c.ns n).t.lo = (ntOf a.w.c.ns n).t.lo /\ (ntOf a.w.c.ns n).t.hi = (ntOf a.w.c.ns n).t.hi /\ (ntOf a.w.c.ns
 n).s.lo = (ntOf a.w.c.ns n).s.lo /\ (ntOf a.w.c.ns n).s.hi = (ntOf a.w.c.ns n).s.hi
theorem vc_stg (a : DkI) : (V_stg a) = ((0 <= a.k /\ a.k < (↑a.w.c.ms.length : Int)) /\ Value.agg #[Value.int IntKind.i64 0, Value.int IntKind.i64 0, Value.int IntKind.i64 0, Value.int IntKind.i64 0, Value.int IntKind.i64
 0] = zNt /\ bif hasN a.w.c.ns a.k then (z_stg_1 a = z_stg_1 a /\ z_stg_2 a = z_stg_2 a /\ z_stg_4 a = 1 /\ 1 <= 1 /\ (∀ (j : Nat), j < z_stg_4 a -> (z_stg_5 a j).lo = (ntOf a.w.c.ns a.k).s.lo /\ (z_stg_5 a j).hi = (ntOf a.w.c.ns
 a.k).s.hi) /\ true = true) /\ (stgM a.w.c a.k).lo = (z_stg_6 a).lo /\ (stgM a.w.c a.k).hi = (z_stg_6 a).hi /\ z_stg_11 a else (stgM a.w.c a.k).lo = z_stg_1 a /\ (stgM a.w.c a.k).hi = z_stg_2 a /\ z_stg_11 a) := by kernel_rfl
theorem p_stg (a : DkI) (h : 0 <= a.k /\ a.k < a.w.c.ms.length) : V_stg a := by
 rw [vc_stg]; delta z_stg_0 z_stg_1 z_stg_2 z_stg_3 z_stg_4 z_stg_5 z_stg_6 z_stg_7 z_stg_8 z_stg_9 z_stg_10 z_stg_11; simp only [condP, eq_self, implies_true, and_self, true_and, and_true, true_implies, forall_const, decide_eq_true_eq, decide_eq_false_iff_not, Int.toNat_natCast, dSpan_eSpan, dInt_eInt, dMk_e, dNt_e, dPr_e, Nat.zero_add, Int.zero_sub, Nat.le_eq, Nat.succ_eq_add_one, Nat.add_one_le_iff, Bool.not_eq_true', Bool.not_eq_false', rng_length, dSpan_mk, rng_getD]
 cases hq : hasN a.w.c.ns a.k with
 | true =>
  have e : stgM a.w.c a.k = com (st0 a.w.c a.k) (ntOf a.w.c.ns a.k).s := by unfold stgM; rw [hq]; rfl
  refine ⟨h, rfl, λ _ => ⟨⟨by omega, λ j hj => ?_⟩, ?_, ?_⟩, λ h => by cases h⟩
  ·rw [rng_get _ _ _ hj]; exact ⟨rfl, rfl⟩
  ·rw [e]; rfl
  ·rw [e]; rfl
 | false =>
  have e : stgM a.w.c a.k = st0 a.w.c a.k := by unfold stgM; rw [hq]; rfl
  refine ⟨h, rfl, (λ h => by cases h), λ _ => ⟨?_, ?_⟩⟩
  ·rw [e]; rfl
  ·rw [e]; rfl
theorem ok_stg : SpecOk Try.prog n_stages (C_stg.spec dDkI) := okC C_stg (λ _ => A_stg) [] [] fn_stages (λ _ => by kernel_rfl) (λ _ => gok_cons ok_com gok_nil) (λ a h => p_stg a h) (λ _ => noI rfl rfl) _
def rowS (l : List Span) : AObj := .row 2 l.length λ i => eSpan (gD l i)
def C4SaO : Ctr := { ro := [100], α := MSa, xs := λ a => [.own 100 2 0 a.l.length, fvSa a.q], L := λ a => [(100, rowS a.l)], val := λ a => .bool (a.l.all leM), keep := λ a => [(100, .live (rowS a.l))], pre := PSa }
def d4SaO : List AVal -> Heap -> Option (MSa × List (Nat × Nat) × List Nat)
 | [.own id _ _ _, .fn _ _ _], H => match H id with
  | .live (.row _ n g) => some (⟨default, rng n λ i => dSpan (g i)⟩, [(100, id)], [])
  | _ => none
 | _, _ => none
def C4SnO : Ctr := { ro := [100], α := MSn, xs := λ a => [.own 100 2 0 a.l.length, fvSn a.q], L := λ a => [(100, rowS a.l)], val := λ a => .bool (a.l.all leM), keep := λ a => [(100, .live (rowS a.l))], pre := PSn }
def d4SnO : List AVal -> Heap -> Option (MSn × List (Nat × Nat) × List Nat)
 | [.own id _ _ _, .fn _ _ _], H => match H id with
  | .live (.row _ n g) => some (⟨default, rng n λ i => dSpan (g i)⟩, [(100, id)], [])
  | _ => none
 | _, _ => none
theorem ok4SaO : SpecOk Try.prog n_eS (C4SaO.spec d4SaO) := okT C4SaO (λ (a : MSa) h => by
 have hf := fn4Sa a h
 refine FnT.lend (fz := [100]) (xs := [.own 100 2 0 a.l.length, fvSa a.q]) (L := [(100, rowS a.l)]) hf rfl ?_ rfl ?_ _ ?_
 ·show [AVal.d (.list 2 a.l.length (λ j => eSpan (gD a.l (0 + j))) false), _] = _
  simp only [Nat.zero_add]; rfl
 ·show 0 + a.l.length <= a.l.length; omega
 ·exact ⟨rfl, trivial⟩) _
theorem ok4SnO : SpecOk Try.prog n_eS (C4SnO.spec d4SnO) := okT C4SnO (λ (a : MSn) h => by
 have hf := fn4Sn a h
 refine FnT.lend (fz := [100]) (xs := [.own 100 2 0 a.l.length, fvSn a.q]) (L := [(100, rowS a.l)]) hf rfl ?_ rfl ?_ _ ?_
 ·show [AVal.d (.list 2 a.l.length (λ j => eSpan (gD a.l (0 + j))) false), _] = _
  simp only [Nat.zero_add]; rfl
 ·show 0 + a.l.length <= a.l.length; omega
 ·exact ⟨rfl, trivial⟩) _
def stgL (c : Cht) : List Span := rng c.ms.length λ i => stgM c (i : Int)
def stgOk (c : Cht) : Bool := (stgL c).all leM
def dDk1 : List AVal -> Heap -> Option (Dk × List (Nat × Nat) × List Nat)
 | [.bptr id _], H => match decDk H id with
  | some (w, q) => some (w, [(100, id), (101, q)], [])
  | none => none
 | _, _ => none
def C_all : Ctr := { ro := [100, 101], α := Dk, xs := λ _ => [.bptr 100 0], L := λ w => dkL w, val := λ w => .tup [.d (eSpans (stgL w.c)), .bool (stgOk w.c)], keep := λ w => dkK w, pre := λ w => [1 <= w.c.ms.length /\ w.c.ms.length <= 40] }
def al3n (w : Dk) : Shape := { α := One, dflt := default, T := λ _ => ⟨[(0, .bptr 100 0), (4, .d nilL), (11, .int w.c.ms.length), (12, .int 0)], dkK w⟩, inv := λ _ => True, meas := λ _ => 50 }
def al3o (w : Dk) : Shape := { α := Nat, dflt := 0, T := λ k => ⟨[(0, .bptr 100 0), (4, .own 202 2 0 k), (11, .int w.c.ms.length), (12, .int k)], dkK w ++ [(202, .live (.row 2 k λ i => eSpan (stgM w.c (i : Int))))]⟩, inv := λ k => 1 <= k /\ k <= w.c.ms.length, meas := λ k => 40 - k, again := [(202, 6080)] }
def A_all (w : Dk) : Ann := { ann 25 [(n_stages, C_stg.spec dDkI), (n_eS, orS (C4SaO.spec d4SaO) (C4Sa.spec d4Sa))] with E := [100, 101], mt := λ id => id == 5, loops := λ id => if id = 3 then some [al3n w, al3o w] else none }
def V_all (w : Dk) : Prop := fnVC Try.prog (A_all w) F_all (bodyOf F_all) (C_all.xs w) (heapOf (C_all.L w)) (C_all.val w) (C_all.keep w) [] [202]
abbrev z_all_0 : Prop := (0 : Nat) = (0 : Nat)
abbrev z_all_1 (w : Dk) : Prop := (↑w.c.ms.length : Int) = (↑w.c.ms.length : Int)
abbrev z_all_2 (w : Dk) : Prop := w.c.p.lo = w.c.p.lo
abbrev z_all_3 (w : Dk) : Prop := w.c.p.hi = w.c.p.hi
abbrev z_all_4 (w : Dk) : Prop := w.c.ms.length = w.c.ms.length
abbrev z_all_5 (w : Dk) : Prop := ∀ (i : Nat), i < w.c.ms.length -> (gD w.c.ms i).pl = (gD w.c.ms i).pl /\ (gD w.c.ms i).ht = (gD w.c.ms i).ht
abbrev z_all_6 (w : Dk) : Prop := w.c.ns.length = w.c.ns.length
abbrev z_all_7 (w : Dk) : Prop := ∀ (i : Nat), i < w.c.ns.length -> (gD w.c.ns i).mi = (gD w.c.ns i).mi /\ (gD w.c.ns i).t.lo = (gD w.c.ns i).t.lo /\ (gD w.c.ns i).t.hi = (gD w.c.ns i).t.hi /\ (gD w.c.ns i).s.lo = (gD w.c.ns
 i).s.lo /\ (gD w.c.ns i).s.hi = (gD w.c.ns i).s.hi
abbrev z_all_8 (w : Dk) : Prop := ∀ (i : Nat), i < (40 : Nat) -> w.sp i = w.sp i
abbrev z_all_9 (w : Dk) : Prop := ∀ (n : Int), hasN w.c.ns n = hasN w.c.ns n
abbrev z_all_10 (w : Dk) : Prop := ∀ (n : Int), w.st n = w.st n
abbrev z_all_11 (w : Dk) : Prop := ∀ (n : Int), (ntOf w.c.ns n).mi = (ntOf w.c.ns n).mi /\ (ntOf w.c.ns n).t.lo = (ntOf w.c.ns n).t.lo /\ (ntOf w.c.ns n).t.hi = (ntOf w.c.ns n).t.hi /\ (ntOf w.c.ns n).s.lo = (ntOf w.c.ns
 n).s.lo /\ (ntOf w.c.ns n).s.hi = (ntOf w.c.ns n).s.hi
abbrev z_all_12 (w : Dk) : Prop := z_all_2 w /\ z_all_3 w /\ w.c.base = w.c.base /\ w.c.scale = w.c.scale /\ w.c.off = w.c.off /\ z_all_4 w /\ z_all_5 w /\ z_all_6 w /\ z_all_7 w /\ z_all_8 w /\ zNt = zNt /\ z_all_9 w /\ z_all_10 w
 /\ z_all_11 w
abbrev z_all_13 (w : Dk) : List Mk := rng w.c.ms.length λ (i : Nat) => gD w.c.ms i
abbrev z_all_14 (w : Dk) : Nat := (z_all_13 w).length
abbrev z_all_15 (w : Dk) : Prop := z_all_14 w = w.c.ms.length
abbrev z_all_16 (w : Dk) (i : Nat) : Mk := gD (z_all_13 w) i
abbrev z_all_17 (w : Dk) (i : Nat) : Int := (z_all_16 w i).pl
abbrev z_all_18 (w : Dk) (i : Nat) : Int := (z_all_16 w i).ht
abbrev z_all_19 (w : Dk) : Prop := ∀ (i : Nat), i < z_all_14 w -> z_all_17 w i = (gD w.c.ms i).pl /\ z_all_18 w i = (gD w.c.ms i).ht
abbrev z_all_20 (w : Dk) : List Nt := rng w.c.ns.length λ (i : Nat) => gD w.c.ns i
abbrev z_all_21 (w : Dk) : Nat := (z_all_20 w).length
abbrev z_all_22 (w : Dk) : Prop := z_all_21 w = w.c.ns.length
abbrev z_all_23 (w : Dk) (i : Nat) : Nt := gD (z_all_20 w) i
abbrev z_all_24 (w : Dk) (i : Nat) : Int := (z_all_23 w i).mi
abbrev z_all_25 (w : Dk) (i : Nat) : Span := (z_all_23 w i).t
abbrev z_all_26 (w : Dk) (i : Nat) : Int := (z_all_25 w i).lo
abbrev z_all_27 (w : Dk) (i : Nat) : Int := (z_all_25 w i).hi
abbrev z_all_28 (w : Dk) (i : Nat) : Span := (z_all_23 w i).s
abbrev z_all_29 (w : Dk) (i : Nat) : Int := (z_all_28 w i).lo
abbrev z_all_30 (w : Dk) (i : Nat) : Int := (z_all_28 w i).hi
abbrev z_all_31 (w : Dk) : Prop := ∀ (i : Nat), i < z_all_21 w -> z_all_24 w i = (gD w.c.ns i).mi /\ z_all_26 w i = (gD w.c.ns i).t.lo /\ z_all_27 w i = (gD w.c.ns i).t.hi /\ z_all_29 w i = (gD w.c.ns i).s.lo /\ z_all_30 w i
 = (gD w.c.ns i).s.hi
abbrev z_all_32 (w : Dk) (n : Int) : Bool := hasN (z_all_20 w) n
abbrev z_all_33 (w : Dk) : Prop := ∀ (n : Int), z_all_32 w n = hasN w.c.ns n
abbrev z_all_34 (w : Dk) (n : Int) : Nt := ntOf (z_all_20 w) n
abbrev z_all_35 (w : Dk) (n : Int) : Int := (z_all_34 w n).mi
abbrev z_all_36 (w : Dk) (n : Int) : Span := (z_all_34 w n).t
abbrev z_all_37 (w : Dk) (n : Int) : Int := (z_all_36 w n).lo
abbrev z_all_38 (w : Dk) (n : Int) : Int := (z_all_36 w n).hi
abbrev z_all_39 (w : Dk) (n : Int) : Span := (z_all_34 w n).s
abbrev z_all_40 (w : Dk) (n : Int) : Int := (z_all_39 w n).lo
abbrev z_all_41 (w : Dk) (n : Int) : Int := (z_all_39 w n).hi
abbrev z_all_42 (w : Dk) : Prop := ∀ (n : Int), z_all_35 w n = (ntOf w.c.ns n).mi /\ z_all_37 w n = (ntOf w.c.ns n).t.lo /\ z_all_38 w n = (ntOf w.c.ns n).t.hi /\ z_all_40 w n = (ntOf w.c.ns n).s.lo /\ z_all_41 w n = (ntOf
 w.c.ns n).s.hi
abbrev z_all_43 (w : Dk) : Prop := w.c.ms.length = z_all_14 w
abbrev z_all_44 (w : Dk) : Prop := ∀ (i : Nat), i < w.c.ms.length -> (gD w.c.ms i).pl = z_all_17 w i /\ (gD w.c.ms i).ht = z_all_18 w i
abbrev z_all_45 (w : Dk) : Prop := w.c.ns.length = z_all_21 w
abbrev z_all_46 (w : Dk) : Prop := ∀ (i : Nat), i < w.c.ns.length -> (gD w.c.ns i).mi = z_all_24 w i /\ (gD w.c.ns i).t.lo = z_all_26 w i /\ (gD w.c.ns i).t.hi = z_all_27 w i /\ (gD w.c.ns i).s.lo = z_all_29 w i /\ (gD w.c.ns
 i).s.hi = z_all_30 w i
abbrev z_all_47 (w : Dk) : Prop := ∀ (n : Int), hasN w.c.ns n = z_all_32 w n
abbrev z_all_48 (w : Dk) : Prop := ∀ (n : Int), (ntOf w.c.ns n).mi = z_all_35 w n /\ (ntOf w.c.ns n).t.lo = z_all_37 w n /\ (ntOf w.c.ns n).t.hi = z_all_38 w n /\ (ntOf w.c.ns n).s.lo = z_all_40 w n /\ (ntOf w.c.ns n).s.hi =
 z_all_41 w n
abbrev z_all_49 : Prop := (0 : Nat) < (1 : Nat)
abbrev z_all_50 : Prop := (2 : Nat) = (2 : Nat)
abbrev z_all_51 : Prop := (1 : Nat) <= (1 : Nat) /\ (z_all_49 -> z_all_50)
abbrev z_all_52 (w : Dk) : Cht := Cht.mk w.c.p w.c.base w.c.scale w.c.off (z_all_13 w) (z_all_20 w)
abbrev z_all_53 (w : Dk) : Span := stgM (z_all_52 w) (0 : Int)
abbrev z_all_54 (a : Nat) (w : Dk) : Prop := (1 : Nat) <= a /\ a <= w.c.ms.length
abbrev z_all_55 (a : Nat) : Nat := (40 : Nat) - a
abbrev z_all_56 (w : Dk) : Prop := (stgL w.c).length = (0 : Nat)
abbrev z_all_57 (a : Nat) : Nat := a + (1 : Nat)
abbrev z_all_58 (a : Nat) (a1 : Nat) : Prop := a = z_all_57 a1
abbrev z_all_59 (w : Dk) (a : Nat) : Span := stgM (z_all_52 w) (↑a : Int)
abbrev z_all_60 (a : Nat) (w : Dk) : List Span := rng a λ (i : Nat) => stgM w.c (↑i : Int)
abbrev z_all_61 (a : Nat) (w : Dk) : Nat := (z_all_60 a w).length
abbrev z_all_62 (a : Nat) (w : Dk) : Prop := z_all_61 a w = a
abbrev z_all_63 (a : Nat) (w : Dk) (i : Nat) : Span := gD (z_all_60 a w) i
abbrev z_all_64 (a : Nat) (w : Dk) (i : Nat) : Int := (z_all_63 a w i).lo
abbrev z_all_65 (a : Nat) (w : Dk) (i : Nat) : Int := (z_all_63 a w i).hi
abbrev z_all_66 (a : Nat) : Nat := (0 : Nat) + a
abbrev z_all_67 (w : Dk) (j : Nat) : Span := stgM w.c (↑(z_all_66 j) : Int)
theorem vc_all (w : Dk) : (V_all w) = ((∃ (a : One), (z_all_0 /\ (∀ (i : Nat), i < (0 : Nat) -> false = false) /\ z_all_1 w /\ Int.ofNat (0 : Nat) = Int.ofNat (0 : Nat) /\ z_all_12 w) /\ True) /\ (∀ (a : One), True -> bif decide
 ((0 : Int) < (↑w.c.ms.length : Int)) then ((0 : Int) = Int.ofNat (0 : Nat) /\ z_all_2 w /\ z_all_3 w /\ w.c.base = w.c.base /\ w.c.scale = w.c.scale /\ w.c.off = w.c.off /\ z_all_15 w /\ z_all_19 w /\ z_all_22 w /\ z_all_31 w /\
 z_all_8 w /\ zNt = zNt /\ z_all_33 w /\ z_all_10 w /\ z_all_42 w /\ z_all_2 w /\ z_all_3 w /\ w.c.base = w.c.base /\ w.c.scale = w.c.scale /\ w.c.off = w.c.off /\ z_all_43 w /\ z_all_44 w /\ z_all_45 w /\ z_all_46 w /\ z_all_8 w /\ zNt
 = zNt /\ z_all_47 w /\ z_all_10 w /\ z_all_48 w /\ ((0 : Int) <= (0 : Int) /\ (0 : Int) < (↑(z_all_14 w) : Int)) /\ (True /\ ((0 : Nat) < (0 : Nat) -> (0 : Nat) = (2 : Nat))) /\ z_all_51 /\ (true = true -> z_all_49) /\ (1 : Nat) <=
 (9223372036854775807 : Nat) /\ (16 : Nat) <= (140737488355328 : Nat)) /\ ∃ (a : Nat), (z_all_0 /\ a = (1 : Nat) /\ z_all_1 w /\ (↑a : Int) = IntKind.i64.wrap ((0 : Int) + (1 : Int)) /\ z_all_2 w /\ z_all_3 w /\ w.c.base =
 w.c.base /\ w.c.scale = w.c.scale /\ w.c.off = w.c.off /\ z_all_4 w /\ z_all_5 w /\ z_all_6 w /\ z_all_7 w /\ z_all_8 w /\ zNt = zNt /\ z_all_9 w /\ z_all_10 w /\ z_all_11 w /\ a = (1 : Nat) /\ ∀ (i : Nat), i < a -> (stgM w.c (↑i :
 Int)).lo = (z_all_53 w).lo /\ (stgM w.c (↑i : Int)).hi = (z_all_53 w).hi) /\ z_all_54 a w /\ z_all_55 a < (50 : Nat) else (z_all_0 /\ z_all_0 /\ (0 : Nat) < (4611686018427387904 : Nat) /\ True) /\ z_all_56 w /\ z_all_56 w /\
 stgOk w.c = true /\ z_all_12 w) /\ ∀ (a : Nat), z_all_54 a w -> bif decide ((↑a : Int) < (↑w.c.ms.length : Int)) then ((↑a : Int) = (↑a : Int) /\ z_all_2 w /\ z_all_3 w /\ w.c.base = w.c.base /\ w.c.scale = w.c.scale /\ w.c.off
 = w.c.off /\ z_all_15 w /\ z_all_19 w /\ z_all_22 w /\ z_all_31 w /\ z_all_8 w /\ zNt = zNt /\ z_all_33 w /\ z_all_10 w /\ z_all_42 w /\ z_all_2 w /\ z_all_3 w /\ w.c.base = w.c.base /\ w.c.scale = w.c.scale /\ w.c.off = w.c.off /\
 z_all_43 w /\ z_all_44 w /\ z_all_45 w /\ z_all_46 w /\ z_all_8 w /\ zNt = zNt /\ z_all_47 w /\ z_all_10 w /\ z_all_48 w /\ ((0 : Int) <= (↑a : Int) /\ (↑a : Int) < (↑(z_all_14 w) : Int)) /\ (a = a /\ ((0 : Nat) < a -> z_all_50)) /\
 z_all_51 /\ (false = true -> z_all_49) /\ z_all_57 a <= (9223372036854775807 : Nat) /\ z_all_57 a * (16 : Nat) <= (140737488355328 : Nat)) /\ ∃ (a_2 : Nat), (z_all_0 /\ z_all_58 a_2 a /\ z_all_1 w /\ (↑a_2 : Int) =
 IntKind.i64.wrap ((↑a : Int) + (1 : Int)) /\ z_all_2 w /\ z_all_3 w /\ w.c.base = w.c.base /\ w.c.scale = w.c.scale /\ w.c.off = w.c.off /\ z_all_4 w /\ z_all_5 w /\ z_all_6 w /\ z_all_7 w /\ z_all_8 w /\ zNt = zNt /\ z_all_9 w /\
 z_all_10 w /\ z_all_11 w /\ z_all_58 a_2 a /\ ∀ (i : Nat), i < a_2 -> ((stgM w.c (↑i : Int)).lo = bif decide (i < a) then (stgM w.c (↑i : Int)).lo else (z_all_59 w a).lo) /\ (stgM w.c (↑i : Int)).hi = bif decide (i < a) then
 (stgM w.c (↑i : Int)).hi else (z_all_59 w a).hi) /\ z_all_54 a_2 w /\ z_all_55 a_2 < z_all_55 a else (z_all_0 /\ z_all_62 a w /\ z_all_62 a w /\ (∀ (i : Nat), i < z_all_61 a w -> z_all_64 a w i = (stgM w.c (↑i : Int)).lo /\
 z_all_65 a w i = (stgM w.c (↑i : Int)).hi) /\ a = z_all_61 a w /\ (∀ (i : Nat), i < a -> (stgM w.c (↑i : Int)).lo = z_all_64 a w i /\ (stgM w.c (↑i : Int)).hi = z_all_65 a w i) /\ z_all_61 a w < (4611686018427387904 : Nat) /\
 True) /\ (stgL w.c).length = a /\ z_all_66 a <= a /\ (∀ (j : Nat), j < (stgL w.c).length -> (gD (stgL w.c) j).lo = (z_all_67 w j).lo /\ (gD (stgL w.c) j).hi = (z_all_67 w j).hi) /\ stgOk w.c = (z_all_60 a w).all leM /\ z_all_12
 w) := by kernel_rfl
theorem p_all (w : Dk) (h : 1 <= w.c.ms.length /\ w.c.ms.length <= 40) : V_all w := by
 obtain ⟨h1, h2⟩ := h
 rw [vc_all]; delta z_all_0 z_all_1 z_all_2 z_all_3 z_all_4 z_all_5 z_all_6 z_all_7 z_all_8 z_all_9 z_all_10 z_all_11 z_all_12 z_all_13 z_all_14 z_all_15 z_all_16 z_all_17 z_all_18 z_all_19 z_all_20 z_all_21 z_all_22 z_all_23 z_all_24 z_all_25 z_all_26 z_all_27 z_all_28 z_all_29 z_all_30 z_all_31 z_all_32 z_all_33 z_all_34 z_all_35 z_all_36 z_all_37 z_all_38 z_all_39 z_all_40 z_all_41 z_all_42 z_all_43 z_all_44 z_all_45 z_all_46 z_all_47 z_all_48 z_all_49 z_all_50 z_all_51 z_all_52 z_all_53 z_all_54 z_all_55 z_all_56 z_all_57 z_all_58 z_all_59 z_all_60 z_all_61 z_all_62 z_all_63 z_all_64 z_all_65 z_all_66 z_all_67; simp only [condP, eq_self, implies_true, and_self, true_and, and_true, true_implies, forall_const, decide_eq_true_eq, decide_eq_false_iff_not, Int.toNat_natCast, dSpan_eSpan, dInt_eInt, dMk_e, dNt_e, dPr_e, Nat.zero_add, Int.zero_sub, Nat.le_eq, Nat.succ_eq_add_one, Nat.add_one_le_iff, Bool.not_eq_true', Bool.not_eq_false', rng_length, dSpan_mk, rng_getD, cht_eta]
 refine ⟨⟨default, trivial⟩, ⟨λ h0 => ⟨⟨rfl, by omega, by omega, by omega, by omega, by omega, by omega⟩, 1, ⟨rfl, rfl, rfl, λ i hi => ?_⟩, by omega, by omega⟩, λ h0 => absurd h0 (by omega)⟩, λ k hk => ⟨λ hlt => ⟨⟨by omega, by omega, (λ h => by cases h), by omega, by omega⟩, k + 1, ⟨rfl, (wsucc (by omega)).symm, rfl, λ i hi => ?_⟩, by omega, by omega⟩, λ hge => ?_⟩⟩
 ·obtain rfl : i = 0 := by omega
  exact ⟨rfl, rfl⟩
 ·by_cases h : i < k
  ·simp [h]
  ·obtain rfl : i = k := by omega
   simp
 ·obtain rfl : k = w.c.ms.length := by omega
  refine ⟨⟨λ i hi => ?_, λ i hi => ?_, by omega⟩, rng_length _ _, by omega, λ j hj => ?_, rfl⟩
  ·rw [rng_get _ _ _ hi]; exact ⟨rfl, rfl⟩
  ·rw [rng_get _ _ _ hi]; exact ⟨rfl, rfl⟩
  ·have hj : j < w.c.ms.length := by simpa [stgL] using hj
   unfold stgL; rw [rng_get _ _ _ hj]; exact ⟨rfl, rfl⟩
theorem ok_all : SpecOk Try.prog n_all (C_all.spec dDk1) := okC C_all A_all [] [202] fn_all (λ _ => by kernel_rfl) (λ _ => gok_cons ok_stg (gok_cons (orS_ok ok4SaO ok4Sa) gok_nil)) (λ w h => p_all w h) (λ _ => noI rfl rfl) _
def nilS : List Span := []
def stagesV (c : Cht) : List Span × Int := bif checkC c == 0 then bif stgOk c then (stgL c, 0) else ([], 6) else ([], checkC c)
def C_Stages : Ctr := { α := Cht, xs := λ c => [.d (eCht c)], val := λ c => .tup [.d (eSpans (stagesV c).1), .int (stagesV c).2], keep := λ _ => [], pre := λ c => [c.ms.length < 4611686018427387904 /\ c.ns.length < 4611686018427387904] }
def A_Stages : Ann := ann 24 [(n_opened, C_open.spec dC1), (n_all, C_all.spec dDk1)]
def A_StagesX : Ann := ann 24 [(n_opened, C_openX.spec dC1)]
def V_Stages (c : Cht) : Prop := fnVC Try.prog A_Stages F_Stages (bodyOf F_Stages) (C_Stages.xs c) (heapOf []) (.tup [.d (eSpans (bif stgOk c then stgL c else [])), .int (bif stgOk c then 0 else 6)]) [] [] []
abbrev z_Stages_0 (c : Cht) : List Mk := rng c.ms.length λ (i : Nat) => gD c.ms i
abbrev z_Stages_1 (c : Cht) : Nat := (z_Stages_0 c).length
abbrev z_Stages_2 (c : Cht) (i : Nat) : Mk := gD (z_Stages_0 c) i
abbrev z_Stages_3 (c : Cht) : List Nt := rng c.ns.length λ (i : Nat) => gD c.ns i
abbrev z_Stages_4 (c : Cht) : Nat := (z_Stages_3 c).length
abbrev z_Stages_5 (c : Cht) (i : Nat) : Nt := gD (z_Stages_3 c) i
abbrev z_Stages_6 (c : Cht) (i : Nat) : Span := (z_Stages_5 c i).t
abbrev z_Stages_7 (c : Cht) (i : Nat) : Span := (z_Stages_5 c i).s
abbrev z_Stages_8 (c : Cht) : Cht := Cht.mk c.p c.base c.scale c.off (z_Stages_0 c) (z_Stages_3 c)
abbrev z_Stages_9 (c : Cht) : Dk := newD (z_Stages_8 c)
abbrev z_Stages_10 (c : Cht) : Cht := (z_Stages_9 c).c
abbrev z_Stages_11 (c : Cht) : Span := (z_Stages_10 c).p
abbrev z_Stages_12 (c : Cht) : Int := (z_Stages_11 c).lo
abbrev z_Stages_13 (c : Cht) : Prop := z_Stages_12 c = z_Stages_12 c
abbrev z_Stages_14 (c : Cht) : Int := (z_Stages_11 c).hi
abbrev z_Stages_15 (c : Cht) : Prop := z_Stages_14 c = z_Stages_14 c
abbrev z_Stages_16 (c : Cht) : Int := (z_Stages_10 c).base
abbrev z_Stages_17 (c : Cht) : Prop := z_Stages_16 c = z_Stages_16 c
abbrev z_Stages_18 (c : Cht) : Int := (z_Stages_10 c).scale
abbrev z_Stages_19 (c : Cht) : Prop := z_Stages_18 c = z_Stages_18 c
abbrev z_Stages_20 (c : Cht) : Int := (z_Stages_10 c).off
abbrev z_Stages_21 (c : Cht) : Prop := z_Stages_20 c = z_Stages_20 c
abbrev z_Stages_22 (c : Cht) : List Mk := (z_Stages_10 c).ms
abbrev z_Stages_23 (c : Cht) : Nat := (z_Stages_22 c).length
abbrev z_Stages_24 (c : Cht) (i : Nat) : Mk := gD (z_Stages_22 c) i
abbrev z_Stages_25 (c : Cht) : List Mk := rng (z_Stages_23 c) λ (i : Nat) => z_Stages_24 c i
abbrev z_Stages_26 (c : Cht) : Nat := (z_Stages_25 c).length
abbrev z_Stages_27 (c : Cht) (i : Nat) : Mk := gD (z_Stages_25 c) i
abbrev z_Stages_28 (c : Cht) (i : Nat) : Int := (z_Stages_27 c i).pl
abbrev z_Stages_29 (c : Cht) (i : Nat) : Int := (z_Stages_24 c i).pl
abbrev z_Stages_30 (c : Cht) (i : Nat) : Int := (z_Stages_27 c i).ht
abbrev z_Stages_31 (c : Cht) (i : Nat) : Int := (z_Stages_24 c i).ht
abbrev z_Stages_32 (c : Cht) : List Nt := (z_Stages_10 c).ns
abbrev z_Stages_33 (c : Cht) : Nat := (z_Stages_32 c).length
abbrev z_Stages_34 (c : Cht) (i : Nat) : Nt := gD (z_Stages_32 c) i
abbrev z_Stages_35 (c : Cht) : List Nt := rng (z_Stages_33 c) λ (i : Nat) => z_Stages_34 c i
abbrev z_Stages_36 (c : Cht) : Nat := (z_Stages_35 c).length
abbrev z_Stages_37 (c : Cht) (i : Nat) : Nt := gD (z_Stages_35 c) i
abbrev z_Stages_38 (c : Cht) (i : Nat) : Int := (z_Stages_37 c i).mi
abbrev z_Stages_39 (c : Cht) (i : Nat) : Int := (z_Stages_34 c i).mi
abbrev z_Stages_40 (c : Cht) (i : Nat) : Span := (z_Stages_37 c i).t
abbrev z_Stages_41 (c : Cht) (i : Nat) : Int := (z_Stages_40 c i).lo
abbrev z_Stages_42 (c : Cht) (i : Nat) : Span := (z_Stages_34 c i).t
abbrev z_Stages_43 (c : Cht) (i : Nat) : Int := (z_Stages_42 c i).lo
abbrev z_Stages_44 (c : Cht) (i : Nat) : Int := (z_Stages_40 c i).hi
abbrev z_Stages_45 (c : Cht) (i : Nat) : Int := (z_Stages_42 c i).hi
abbrev z_Stages_46 (c : Cht) (i : Nat) : Span := (z_Stages_37 c i).s
abbrev z_Stages_47 (c : Cht) (i : Nat) : Int := (z_Stages_46 c i).lo
abbrev z_Stages_48 (c : Cht) (i : Nat) : Span := (z_Stages_34 c i).s
abbrev z_Stages_49 (c : Cht) (i : Nat) : Int := (z_Stages_48 c i).lo
abbrev z_Stages_50 (c : Cht) (i : Nat) : Int := (z_Stages_46 c i).hi
abbrev z_Stages_51 (c : Cht) (i : Nat) : Int := (z_Stages_48 c i).hi
abbrev z_Stages_52 : Prop := ∀ (i : Nat), i < 40 -> false = false
abbrev z_Stages_53 (c : Cht) (n : Int) : Bool := hasN (z_Stages_35 c) n
abbrev z_Stages_54 (c : Cht) (n : Int) : Bool := hasN (z_Stages_32 c) n
abbrev z_Stages_55 (c : Cht) (n : Int) : Int := (z_Stages_9 c).st n
abbrev z_Stages_56 (c : Cht) : Prop := ∀ (n : Int), z_Stages_55 c n = z_Stages_55 c n
abbrev z_Stages_57 (c : Cht) (n : Int) : Nt := ntOf (z_Stages_35 c) n
abbrev z_Stages_58 (c : Cht) (n : Int) : Int := (z_Stages_57 c n).mi
abbrev z_Stages_59 (c : Cht) (n : Int) : Nt := ntOf (z_Stages_32 c) n
abbrev z_Stages_60 (c : Cht) (n : Int) : Int := (z_Stages_59 c n).mi
abbrev z_Stages_61 (c : Cht) (n : Int) : Span := (z_Stages_57 c n).t
abbrev z_Stages_62 (c : Cht) (n : Int) : Int := (z_Stages_61 c n).lo
abbrev z_Stages_63 (c : Cht) (n : Int) : Span := (z_Stages_59 c n).t
abbrev z_Stages_64 (c : Cht) (n : Int) : Int := (z_Stages_63 c n).lo
abbrev z_Stages_65 (c : Cht) (n : Int) : Int := (z_Stages_61 c n).hi
abbrev z_Stages_66 (c : Cht) (n : Int) : Int := (z_Stages_63 c n).hi
abbrev z_Stages_67 (c : Cht) (n : Int) : Span := (z_Stages_57 c n).s
abbrev z_Stages_68 (c : Cht) (n : Int) : Int := (z_Stages_67 c n).lo
abbrev z_Stages_69 (c : Cht) (n : Int) : Span := (z_Stages_59 c n).s
abbrev z_Stages_70 (c : Cht) (n : Int) : Int := (z_Stages_69 c n).lo
abbrev z_Stages_71 (c : Cht) (n : Int) : Int := (z_Stages_67 c n).hi
abbrev z_Stages_72 (c : Cht) (n : Int) : Int := (z_Stages_69 c n).hi
abbrev z_Stages_73 (c : Cht) : Cht := Cht.mk (z_Stages_11 c) (z_Stages_16 c) (z_Stages_18 c) (z_Stages_20 c) (z_Stages_25 c) (z_Stages_35 c)
abbrev z_Stages_74 (c : Cht) : Nat := (bif stgOk c then stgL c else []).length
abbrev z_Stages_75 (c : Cht) : Prop := z_Stages_74 c = 0
abbrev z_Stages_76 (c : Cht) : Int := bif stgOk c then 0 else 6
abbrev z_Stages_77 (c : Cht) : List Span := stgL (z_Stages_73 c)
abbrev z_Stages_78 (c : Cht) (i : Nat) : Span := gD (bif stgOk c then stgL c else []) i
abbrev z_Stages_79 (c : Cht) (i : Nat) : Span := gD (z_Stages_77 c) i
theorem vc_Stages (c : Cht) : (V_Stages c) = ((c.p.lo = c.p.lo /\ c.p.hi = c.p.hi /\ c.base = c.base /\ c.scale = c.scale /\ c.off = c.off /\ z_Stages_1 c = c.ms.length /\ (∀ (i : Nat), i < z_Stages_1 c -> (z_Stages_2 c i).pl =
 (gD c.ms i).pl /\ (z_Stages_2 c i).ht = (gD c.ms i).ht) /\ z_Stages_4 c = c.ns.length /\ (∀ (i : Nat), i < z_Stages_4 c -> (z_Stages_5 c i).mi = (gD c.ns i).mi /\ (z_Stages_6 c i).lo = (gD c.ns i).t.lo /\ (z_Stages_6 c i).hi =
 (gD c.ns i).t.hi /\ (z_Stages_7 c i).lo = (gD c.ns i).s.lo /\ (z_Stages_7 c i).hi = (gD c.ns i).s.hi) /\ (z_Stages_1 c < 4611686018427387904 /\ z_Stages_4 c < 4611686018427387904) /\ checkC (z_Stages_8 c) = 0) /\ (z_Stages_13
 c /\ z_Stages_15 c /\ z_Stages_17 c /\ z_Stages_19 c /\ z_Stages_21 c /\ z_Stages_26 c = z_Stages_23 c /\ (∀ (i : Nat), i < z_Stages_26 c -> z_Stages_28 c i = z_Stages_29 c i /\ z_Stages_30 c i = z_Stages_31 c i) /\ z_Stages_36 c
 = z_Stages_33 c /\ (∀ (i : Nat), i < z_Stages_36 c -> z_Stages_38 c i = z_Stages_39 c i /\ z_Stages_41 c i = z_Stages_43 c i /\ z_Stages_44 c i = z_Stages_45 c i /\ z_Stages_47 c i = z_Stages_49 c i /\ z_Stages_50 c i =
 z_Stages_51 c i) /\ z_Stages_52 /\ zNt = zNt /\ (∀ (n : Int), z_Stages_53 c n = z_Stages_54 c n) /\ z_Stages_56 c /\ (∀ (n : Int), z_Stages_58 c n = z_Stages_60 c n /\ z_Stages_62 c n = z_Stages_64 c n /\ z_Stages_65 c n =
 z_Stages_66 c n /\ z_Stages_68 c n = z_Stages_70 c n /\ z_Stages_71 c n = z_Stages_72 c n) /\ z_Stages_13 c /\ z_Stages_15 c /\ z_Stages_17 c /\ z_Stages_19 c /\ z_Stages_21 c /\ z_Stages_23 c = z_Stages_26 c /\ (∀ (i : Nat), i <
 z_Stages_23 c -> z_Stages_29 c i = z_Stages_28 c i /\ z_Stages_31 c i = z_Stages_30 c i) /\ z_Stages_33 c = z_Stages_36 c /\ (∀ (i : Nat), i < z_Stages_33 c -> z_Stages_39 c i = z_Stages_38 c i /\ z_Stages_43 c i = z_Stages_41
 c i /\ z_Stages_45 c i = z_Stages_44 c i /\ z_Stages_49 c i = z_Stages_47 c i /\ z_Stages_51 c i = z_Stages_50 c i) /\ z_Stages_52 /\ zNt = zNt /\ (∀ (n : Int), z_Stages_54 c n = z_Stages_53 c n) /\ z_Stages_56 c /\ (∀ (n :
 Int), z_Stages_60 c n = z_Stages_58 c n /\ z_Stages_64 c n = z_Stages_62 c n /\ z_Stages_66 c n = z_Stages_65 c n /\ z_Stages_70 c n = z_Stages_68 c n /\ z_Stages_72 c n = z_Stages_71 c n) /\ 1 <= z_Stages_26 c /\ z_Stages_26 c
 <= 40) /\ bif !stgOk (z_Stages_73 c) then z_Stages_75 c /\ z_Stages_75 c /\ z_Stages_76 c = 6 else z_Stages_74 c = (z_Stages_77 c).length /\ (∀ (i : Nat), i < z_Stages_74 c -> (z_Stages_78 c i).lo = (z_Stages_79 c i).lo /\
 (z_Stages_78 c i).hi = (z_Stages_79 c i).hi) /\ z_Stages_76 c = 0) := by kernel_rfl
def V_StagesX (c : Cht) : Prop := fnVC Try.prog A_StagesX F_Stages (bodyOf F_Stages) (C_Stages.xs c) (heapOf []) (.tup [.d (eSpans nilS), .int (checkC c)]) [] [] []
theorem vc_StagesX (c : Cht) : (V_StagesX c) = ((c.p.lo = c.p.lo /\ c.p.hi = c.p.hi /\ c.base = c.base /\ c.scale = c.scale /\ c.off = c.off /\ (rng c.ms.length λ (i : Nat) => gD c.ms i).length = c.ms.length /\ (∀ (i : Nat),
 i < (rng c.ms.length λ (i : Nat) => gD c.ms i).length -> (gD (rng c.ms.length λ (i : Nat) => gD c.ms i) i).pl = (gD c.ms i).pl /\ (gD (rng c.ms.length λ (i : Nat) => gD c.ms i) i).ht = (gD c.ms i).ht) /\ (rng
 c.ns.length λ (i : Nat) => gD c.ns i).length = c.ns.length /\ (∀ (i : Nat), i < (rng c.ns.length λ (i : Nat) => gD c.ns i).length -> (gD (rng c.ns.length λ (i : Nat) => gD c.ns i) i).mi = (gD c.ns i).mi /\ (gD (rng
 c.ns.length λ (i : Nat) => gD c.ns i) i).t.lo = (gD c.ns i).t.lo /\ (gD (rng c.ns.length λ (i : Nat) => gD c.ns i) i).t.hi = (gD c.ns i).t.hi /\ (gD (rng c.ns.length λ (i : Nat) => gD c.ns i) i).s.lo = (gD c.ns
 i).s.lo /\ (gD (rng c.ns.length λ (i : Nat) => gD c.ns i) i).s.hi = (gD c.ns i).s.hi) /\ ((rng c.ms.length λ (i : Nat) => gD c.ms i).length < 4611686018427387904 /\ (rng c.ns.length λ (i : Nat) => gD c.ns i).length <
 4611686018427387904) /\ checkC (Cht.mk c.p c.base c.scale c.off (rng c.ms.length λ (i : Nat) => gD c.ms i) (rng c.ns.length λ (i : Nat) => gD c.ns i)) ≠ 0) /\ bif checkC (Cht.mk c.p c.base c.scale c.off (rng
 c.ms.length λ (i : Nat) => gD c.ms i) (rng c.ns.length λ (i : Nat) => gD c.ns i)) != 0 then 0 = 0 /\ 0 = 0 /\ checkC c = checkC (Cht.mk c.p c.base c.scale c.off (rng c.ms.length λ (i : Nat) => gD c.ms i) (rng
 c.ns.length λ (i : Nat) => gD c.ns i)) else False) := by kernel_rfl
theorem okStages : SpecOk Try.prog n_Stages (C_Stages.spec dC1) := okT C_Stages (λ (c : Cht) h => by
 obtain ⟨hm, hn⟩ : c.ms.length < 4611686018427387904 /\ c.ns.length < 4611686018427387904 := h
 by_cases h0 : checkC c = 0
 ·have e : C_Stages.val c = .tup [.d (eSpans (bif stgOk c then stgL c else [])), .int (bif stgOk c then 0 else 6)] := by
   show AVal.tup [.d (eSpans (stagesV c).1), .int (stagesV c).2] = _
   unfold stagesV; rw [h0]; cases stgOk c <;> rfl
  have hl := headC_len h0
  rw [e]
  refine fnt (A := A_Stages) (L := []) (keep := []) (ren := []) (fz := []) fn_Stages (by kernel_rfl) (gok_cons ok_open (gok_cons ok_all gok_nil)) ?_
  show V_Stages c; rw [vc_Stages]; delta z_Stages_0 z_Stages_1 z_Stages_2 z_Stages_3 z_Stages_4 z_Stages_5 z_Stages_6 z_Stages_7 z_Stages_8 z_Stages_9 z_Stages_10 z_Stages_11 z_Stages_12 z_Stages_13 z_Stages_14 z_Stages_15 z_Stages_16 z_Stages_17 z_Stages_18 z_Stages_19 z_Stages_20 z_Stages_21 z_Stages_22 z_Stages_23 z_Stages_24 z_Stages_25 z_Stages_26 z_Stages_27 z_Stages_28 z_Stages_29 z_Stages_30 z_Stages_31 z_Stages_32 z_Stages_33 z_Stages_34 z_Stages_35 z_Stages_36 z_Stages_37 z_Stages_38 z_Stages_39 z_Stages_40 z_Stages_41 z_Stages_42 z_Stages_43 z_Stages_44 z_Stages_45 z_Stages_46 z_Stages_47 z_Stages_48 z_Stages_49 z_Stages_50 z_Stages_51 z_Stages_52 z_Stages_53 z_Stages_54 z_Stages_55 z_Stages_56 z_Stages_57 z_Stages_58 z_Stages_59 z_Stages_60 z_Stages_61 z_Stages_62 z_Stages_63 z_Stages_64 z_Stages_65 z_Stages_66 z_Stages_67 z_Stages_68 z_Stages_69 z_Stages_70 z_Stages_71 z_Stages_72 z_Stages_73 z_Stages_74 z_Stages_75 z_Stages_76 z_Stages_77 z_Stages_78 z_Stages_79; simp only [condP, eq_self, implies_true, and_self, true_and, and_true, true_implies, forall_const, decide_eq_true_eq, decide_eq_false_iff_not, Int.toNat_natCast, dSpan_eSpan, dInt_eInt, dMk_e, dNt_e, dPr_e, Nat.zero_add, Int.zero_sub, Nat.le_eq, Nat.succ_eq_add_one, Nat.add_one_le_iff, Bool.not_eq_true', Bool.not_eq_false', rng_length, dSpan_mk, rng_getD, cht_eta, newD_c]
  refine ⟨⟨⟨hm, hn⟩, h0⟩, by omega, λ h => ?_, λ h => ?_⟩
  ·rw [h]; exact ⟨rfl, rfl, rfl⟩
  ·rw [h]; exact ⟨rfl, λ _ _ => ⟨rfl, rfl⟩, rfl⟩
 ·have h0' : (checkC c == 0) = false := by simpa using h0
  have e : C_Stages.val c = .tup [.d (eSpans []), .int (checkC c)] := by
   show AVal.tup [.d (eSpans (stagesV c).1), .int (stagesV c).2] = _
   unfold stagesV; rw [h0']; rfl
  rw [e]
  refine fnt (A := A_StagesX) (L := []) (keep := []) (ren := []) (fz := []) fn_Stages (by kernel_rfl) (gok_cons ok_openX gok_nil) ?_
  show V_StagesX c; rw [vc_StagesX]; simp only [condP, eq_self, implies_true, and_self, true_and, and_true, true_implies, forall_const, decide_eq_true_eq, decide_eq_false_iff_not, Int.toNat_natCast, dSpan_eSpan, dInt_eInt, dMk_e, dNt_e, dPr_e, Nat.zero_add, Int.zero_sub, Nat.le_eq, Nat.succ_eq_add_one, Nat.add_one_le_iff, Bool.not_eq_true', Bool.not_eq_false', rng_length, dSpan_mk, rng_getD, cht_eta]
  simp [hm, hn, h0, nilS]) _
end Go.Bal
