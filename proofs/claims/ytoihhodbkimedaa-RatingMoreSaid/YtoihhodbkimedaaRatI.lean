/- Package rating: bounds of a flow. -/
import Derived.Test.YtoihhodbkimedaaRatH
set_option linter.unusedVariables false
set_option linter.unusedSimpArgs false
namespace Go.Bal
open Go Go.Sym Go.Proofs
def bndM (l : List Ln) (t : Int) : Bnd := bif decide (l.length = 0) then default else ⟨flowM (bestM ltR t l) t, flowM (bestM gtR t l) t⟩
def dBkt : List AVal -> Heap -> Option (BkT × List (Nat × Nat) × List Nat)
 | [.bptr id _, .d t], H => match decBk H id with
  | some (w, q) => some (⟨w, dInt t⟩, [(100, id), (101, q)], [])
  | none => none
 | _, _ => none
def C_bnd : Ctr := { ro := [100], α := BkT, xs := λ a => [.bptr 100 0, .int a.st], L := λ a => bkL a.w, val := λ a => .tup [.d (eBnd (bndM (lB a) a.st)), .bool (decide ((lB a).length ≠ 0))], keep := λ a => bkK (upB a.w (kB a)), pre := λ a => [bkOk a.w.g a.w.b /\ 0 <= a.st /\ a.st <= 2000] }
def A_bnd : Ann := { ann 36 [(n_less, C_less.spec d0), (n_more, C_more.spec d0), (n_best, orS ((C_best ltR n_less1).spec (dBkT n_less1)) ((C_best gtR n_more1).spec (dBkT n_more1))), (n_asked, s_askL)] with E := [100, 101] }
def V_bnd (a : BkT) : Prop := fnVC Try.prog A_bnd F_bounds (bodyOf F_bounds) (C_bnd.xs a) (heapOf (C_bnd.L a)) (C_bnd.val a) (C_bnd.keep a) [] []
abbrev z_bnd_0 (a : BkT) : List Gau := rng a.w.g.length λ (i : Nat) => gD a.w.g i
abbrev z_bnd_1 (a : BkT) : Nat := (z_bnd_0 a).length
abbrev z_bnd_2 (a : BkT) : Prop := z_bnd_1 a = a.w.g.length
abbrev z_bnd_3 (a : BkT) (i : Nat) : Gau := gD (z_bnd_0 a) i
abbrev z_bnd_4 (a : BkT) : Prop := ∀ (i : Nat), i < z_bnd_1 a -> (z_bnd_3 a i).st = (gD a.w.g i).st /\ (z_bnd_3 a i).lo = (gD a.w.g i).lo /\ (z_bnd_3 a i).hi = (gD a.w.g i).hi
abbrev z_bnd_5 (a : BkT) : List Int := rng a.w.b.length λ (i : Nat) => gD a.w.b i
abbrev z_bnd_6 (a : BkT) : Nat := (z_bnd_5 a).length
abbrev z_bnd_7 (a : BkT) : Prop := z_bnd_6 a = a.w.b.length
abbrev z_bnd_8 (a : BkT) : Prop := ∀ (i : Nat), i < z_bnd_6 a -> gD (z_bnd_5 a) i = gD a.w.b i
abbrev z_bnd_9 : Value := Value.slice none 0 0
abbrev z_bnd_10 : Prop := z_bnd_9 = z_bnd_9
abbrev z_bnd_11 (a : BkT) : Bk := Bk.mk (z_bnd_0 a) (z_bnd_5 a) a.w.has a.w.st
abbrev z_bnd_12 (a : BkT) (n : Int) : List Ln := fdM (z_bnd_11 a) n
abbrev z_bnd_13 (a : BkT) (n : Int) : Nat := (z_bnd_12 a n).length
abbrev z_bnd_14 (a : BkT) (n : Int) (i : Nat) : Ln := gD (z_bnd_12 a n) i
abbrev z_bnd_15 (a : BkT) : BkT := BkT.mk (z_bnd_11 a) a.st
abbrev z_bnd_16 (a : BkT) : Bk := upB (z_bnd_11 a) (kB (z_bnd_15 a))
abbrev z_bnd_17 (a : BkT) : List Gau := (z_bnd_16 a).g
abbrev z_bnd_18 (a : BkT) (i : Nat) : Gau := gD (z_bnd_17 a) i
abbrev z_bnd_19 (a : BkT) : List Int := (z_bnd_16 a).b
abbrev z_bnd_20 (a : BkT) : Prop := 0 <= a.st /\ a.st <= 2000
abbrev z_bnd_21 (a : BkT) : Prop := (z_bnd_1 a <= 24 /\ (∀ (x : Gau), List.Mem x (z_bnd_0 a) -> 0 <= x.st /\ x.st <= 2000 /\ 0 <= x.lo /\ x.lo <= x.hi /\ x.hi <= 200000) /\ z_bnd_6 a <= 24 /\ List.Pairwise (λ (x1 x2 : Int) => x1 <
 x2) (z_bnd_5 a) /\ ∀ (x : Int), List.Mem x (z_bnd_5 a) -> 1 <= x /\ x <= 2000) /\ z_bnd_20 a
abbrev z_bnd_22 (a : BkT) (n : Int) : Bool := (z_bnd_16 a).has n
abbrev z_bnd_23 (a : BkT) (n : Int) : Int := (z_bnd_16 a).st n
abbrev z_bnd_24 (a : BkT) : Bk := Bk.mk (z_bnd_0 a) (z_bnd_5 a) (z_bnd_16 a).has (z_bnd_16 a).st
abbrev z_bnd_25 (a : BkT) (n : Int) : List Ln := fdM (z_bnd_24 a) n
abbrev z_bnd_26 (a : BkT) (n : Int) : Nat := (z_bnd_25 a n).length
abbrev z_bnd_27 (a : BkT) (n : Int) : List Ln := fdM (z_bnd_16 a) n
abbrev z_bnd_28 (a : BkT) (n : Int) (i : Nat) : Ln := gD (z_bnd_25 a n) i
abbrev z_bnd_29 (a : BkT) (n : Int) (i : Nat) : Ln := gD (z_bnd_27 a n) i
abbrev z_bnd_30 (a : BkT) : BkT := BkT.mk (z_bnd_24 a) a.st
abbrev z_bnd_31 (a : BkT) : Bk := upB (z_bnd_24 a) (kB (z_bnd_30 a))
abbrev z_bnd_32 (a : BkT) : List Gau := (z_bnd_31 a).g
abbrev z_bnd_33 (a : BkT) (i : Nat) : Gau := gD (z_bnd_32 a) i
abbrev z_bnd_34 (a : BkT) : List Int := (z_bnd_31 a).b
abbrev z_bnd_35 (a : BkT) : List Ln := lB (z_bnd_15 a)
abbrev z_bnd_36 (a : BkT) : Nat := (z_bnd_35 a).length
abbrev z_bnd_37 (a : BkT) : Bool := decide ((lB a).length ≠ 0)
abbrev z_bnd_38 (a : BkT) (i : Nat) : Gau := gD (upB a.w (kB a)).g i
abbrev z_bnd_39 (a : BkT) (n : Int) : List Ln := fdM (z_bnd_31 a) n
abbrev z_bnd_40 (a : BkT) (n : Int) (i : Nat) : Ln := gD (fdM (upB a.w (kB a)) n) i
abbrev z_bnd_41 (a : BkT) (n : Int) (i : Nat) : Ln := gD (z_bnd_39 a n) i
abbrev z_bnd_42 (a : BkT) : Prop := (upB a.w (kB a)).g.length = a.w.g.length /\ (∀ (i : Nat), i < (upB a.w (kB a)).g.length -> (z_bnd_38 a i).st = (gD a.w.g i).st /\ (z_bnd_38 a i).lo = (gD a.w.g i).lo /\ (z_bnd_38 a i).hi =
 (gD a.w.g i).hi) /\ (upB a.w (kB a)).b.length = a.w.b.length /\ (∀ (i : Nat), i < (upB a.w (kB a)).b.length -> gD (upB a.w (kB a)).b i = gD a.w.b i) /\ z_bnd_10 /\ (∀ (n : Int), (upB a.w (kB a)).has n = (z_bnd_31 a).has n) /\
 (∀ (n : Int), (upB a.w (kB a)).st n = (z_bnd_31 a).st n) /\ ∀ (n : Int), (fdM (upB a.w (kB a)) n).length = (z_bnd_39 a n).length /\ ∀ (i : Nat), i < (fdM (upB a.w (kB a)) n).length -> (z_bnd_40 a n i).a0 = (z_bnd_41 a n
 i).a0 /\ (z_bnd_40 a n i).a1 = (z_bnd_41 a n i).a1 /\ (z_bnd_40 a n i).b0 = (z_bnd_41 a n i).b0 /\ (z_bnd_40 a n i).b1 = (z_bnd_41 a n i).b1
abbrev z_bnd_43 (a : BkT) : Prop := z_bnd_36 a = 0
abbrev z_bnd_44 (a : BkT) : Ln := bestM ltR a.st (z_bnd_35 a)
abbrev z_bnd_45 (a : BkT) : Ln := bif decide (z_bnd_43 a) then default else z_bnd_44 a
abbrev z_bnd_46 (a : BkT) : Int := (z_bnd_45 a).a0
abbrev z_bnd_47 (a : BkT) : Int := (z_bnd_45 a).b0
abbrev z_bnd_48 (a : BkT) : Int := (z_bnd_45 a).a1
abbrev z_bnd_49 (a : BkT) : Int := (z_bnd_45 a).b1
abbrev z_bnd_50 (a : BkT) : List Ln := lB (z_bnd_30 a)
abbrev z_bnd_51 (a : BkT) : Prop := (z_bnd_50 a).length = 0
abbrev z_bnd_52 (a : BkT) : Ln := bestM gtR a.st (z_bnd_50 a)
abbrev z_bnd_53 (a : BkT) : Ln := bif decide (z_bnd_51 a) then default else z_bnd_52 a
abbrev z_bnd_54 (a : BkT) : Int := (z_bnd_53 a).a0
abbrev z_bnd_55 (a : BkT) : Int := (z_bnd_53 a).b0
abbrev z_bnd_56 (a : BkT) : Int := (z_bnd_53 a).a1
abbrev z_bnd_57 (a : BkT) : Int := (z_bnd_53 a).b1
abbrev z_bnd_58 (a : BkT) : Rt := flowM (bif decide (z_bnd_43 a) then default else z_bnd_44 a) a.st
abbrev z_bnd_59 (a : BkT) : Rt := flowM (bif decide (z_bnd_51 a) then default else z_bnd_52 a) a.st
theorem vc_bnd (a : BkT) : (V_bnd a) = ((a.st = a.st /\ z_bnd_2 a /\ z_bnd_4 a /\ z_bnd_7 a /\ z_bnd_8 a /\ z_bnd_10 /\ (∀ (n : Int), a.w.has n = a.w.has n) /\ (∀ (n : Int), a.w.st n = a.w.st n) /\ (∀ (n : Int), z_bnd_13 a n =
 (fdM a.w n).length /\ ∀ (i : Nat), i < z_bnd_13 a n -> (z_bnd_14 a n i).a0 = (gD (fdM a.w n) i).a0 /\ (z_bnd_14 a n i).a1 = (gD (fdM a.w n) i).a1 /\ (z_bnd_14 a n i).b0 = (gD (fdM a.w n) i).b0 /\ (z_bnd_14 a n i).b1 = (gD
 (fdM a.w n) i).b1) /\ a.w.g.length = (z_bnd_17 a).length /\ (∀ (i : Nat), i < a.w.g.length -> (gD a.w.g i).st = (z_bnd_18 a i).st /\ (gD a.w.g i).lo = (z_bnd_18 a i).lo /\ (gD a.w.g i).hi = (z_bnd_18 a i).hi) /\ a.w.b.length =
 (z_bnd_19 a).length /\ (∀ (i : Nat), i < a.w.b.length -> gD a.w.b i = gD (z_bnd_19 a) i) /\ z_bnd_21 a) /\ (a.st = a.st /\ z_bnd_2 a /\ z_bnd_4 a /\ z_bnd_7 a /\ z_bnd_8 a /\ z_bnd_10 /\ (∀ (n : Int), z_bnd_22 a n = z_bnd_22 a n)
 /\ (∀ (n : Int), z_bnd_23 a n = z_bnd_23 a n) /\ (∀ (n : Int), z_bnd_26 a n = (z_bnd_27 a n).length /\ ∀ (i : Nat), i < z_bnd_26 a n -> (z_bnd_28 a n i).a0 = (z_bnd_29 a n i).a0 /\ (z_bnd_28 a n i).a1 = (z_bnd_29 a n i).a1 /\
 (z_bnd_28 a n i).b0 = (z_bnd_29 a n i).b0 /\ (z_bnd_28 a n i).b1 = (z_bnd_29 a n i).b1) /\ a.w.g.length = (z_bnd_32 a).length /\ (∀ (i : Nat), i < a.w.g.length -> (gD a.w.g i).st = (z_bnd_33 a i).st /\ (gD a.w.g i).lo =
 (z_bnd_33 a i).lo /\ (gD a.w.g i).hi = (z_bnd_33 a i).hi) /\ a.w.b.length = (z_bnd_34 a).length /\ (∀ (i : Nat), i < a.w.b.length -> gD a.w.b i = gD (z_bnd_34 a) i) /\ z_bnd_21 a) /\ bif !decide (z_bnd_36 a ≠ 0) then (bndM (lB
 a) a.st).lo.n = 0 /\ (bndM (lB a) a.st).lo.d = 0 /\ (bndM (lB a) a.st).hi.n = 0 /\ (bndM (lB a) a.st).hi.d = 0 /\ z_bnd_37 a = false /\ z_bnd_42 a else ((0 <= z_bnd_46 a /\ z_bnd_46 a < z_bnd_47 a /\ z_bnd_47 a <= 2000 /\ 0 <=
 z_bnd_48 a /\ z_bnd_48 a <= z_bnd_49 a /\ z_bnd_49 a <= 200000) /\ z_bnd_20 a /\ (0 <= z_bnd_54 a /\ z_bnd_54 a < z_bnd_55 a /\ z_bnd_55 a <= 2000 /\ 0 <= z_bnd_56 a /\ z_bnd_56 a <= z_bnd_57 a /\ z_bnd_57 a <= 200000) /\ z_bnd_20 a) /\
 (bndM (lB a) a.st).lo.n = (z_bnd_58 a).n /\ (bndM (lB a) a.st).lo.d = (z_bnd_58 a).d /\ (bndM (lB a) a.st).hi.n = (z_bnd_59 a).n /\ (bndM (lB a) a.st).hi.d = (z_bnd_59 a).d /\ z_bnd_37 a = true /\ z_bnd_42 a) := by kernel_rfl
theorem upB_twice (w : Bk) (k : Int) : upB (upB w k) k = upB w k := upB_same (by show hasUp w.has k k = true; simp [hasUp])
theorem bkT_eta (a : BkT) : BkT.mk a.w a.st = a := rfl
theorem upB_eta (w : Bk) (k : Int) : Bk.mk w.g w.b (upB w k).has (upB w k).st = upB w k := rfl
theorem upB_g (w : Bk) (k : Int) : (upB w k).g = w.g := rfl
theorem upB_b (w : Bk) (k : Int) : (upB w k).b = w.b := rfl
theorem kB_up (a : BkT) (k : Int) : kB ⟨upB a.w k, a.st⟩ = kB a := rfl
theorem lB_up (a : BkT) (k : Int) : lB ⟨upB a.w k, a.st⟩ = lB a := rfl
theorem p_bnd (a : BkT) (h : bkOk a.w.g a.w.b) (h2 : 0 <= a.st /\ a.st <= 2000) : V_bnd a := by
 rw [vc_bnd]; delta z_bnd_0 z_bnd_1 z_bnd_2 z_bnd_3 z_bnd_4 z_bnd_5 z_bnd_6 z_bnd_7 z_bnd_8 z_bnd_9 z_bnd_10 z_bnd_11 z_bnd_12 z_bnd_13 z_bnd_14 z_bnd_15 z_bnd_16 z_bnd_17 z_bnd_18 z_bnd_19 z_bnd_20 z_bnd_21 z_bnd_22 z_bnd_23 z_bnd_24 z_bnd_25 z_bnd_26 z_bnd_27 z_bnd_28 z_bnd_29 z_bnd_30 z_bnd_31 z_bnd_32 z_bnd_33 z_bnd_34 z_bnd_35 z_bnd_36 z_bnd_37 z_bnd_38 z_bnd_39 z_bnd_40 z_bnd_41 z_bnd_42 z_bnd_43 z_bnd_44 z_bnd_45 z_bnd_46 z_bnd_47 z_bnd_48 z_bnd_49 z_bnd_50 z_bnd_51 z_bnd_52 z_bnd_53 z_bnd_54 z_bnd_55 z_bnd_56 z_bnd_57 z_bnd_58 z_bnd_59; simp only [condP, eq_self, implies_true, and_self, true_and, and_true, true_implies, forall_const, decide_eq_true_eq, decide_eq_false_iff_not, Int.toNat_natCast, dSpan_eSpan, dInt_eInt, dGau_e, dPt_e, dLn_e, dRt_e, Nat.zero_add, Int.zero_sub, Nat.le_eq, Nat.succ_eq_add_one, Nat.add_one_le_iff, Bool.not_eq_true', Bool.not_eq_false', rng_length, dSpan_mk, rng_getD, bk_eta, upB_eta, upB_g, upB_b, bkT_eta, kB_up, lB_up, upB_twice, if_true]
 obtain ⟨_, hok⟩ := lB_ok h
 unfold bndM
 refine ⟨⟨h, h2⟩, ⟨h, h2⟩, λ hc => ?_, λ hc => ?_⟩
 ·rw [decide_eq_true (show (lB a).length = 0 by omega)]
  exact ⟨rfl, rfl, rfl, rfl, hc⟩
 ·rw [decide_eq_false hc]
  have hb : ∀ lt, okL (bestM lt a.st (lB a)) := λ lt => bestK_all ▸ bestK_ok hok (by omega)
  exact ⟨⟨hb _, h2, hb _, h2⟩, rfl, rfl, rfl, rfl, hc⟩
theorem ok_bnd : SpecOk Try.prog n_bounds (C_bnd.spec dBkt) := okC C_bnd (λ _ => A_bnd) [] [] fn_bounds (λ _ => by kernel_rfl) (λ _ => gok_cons ok_less (gok_cons ok_more (gok_cons (orS_ok ok_bestL ok_bestM) (gok_cons ok_askL gok_nil)))) (λ (a : BkT) h => by
 have h : bkOk a.w.g a.w.b /\ 0 <= a.st /\ a.st <= 2000 := h
 exact p_bnd a h.1 h.2) (λ _ => noI rfl rfl) _
end Go.Bal
