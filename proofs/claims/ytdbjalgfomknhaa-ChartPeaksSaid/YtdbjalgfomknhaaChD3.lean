/- Package chart: times. -/
import Derived.Test.YtdbjalgfomknhaaChD2
set_option linter.unusedVariables false
set_option linter.unusedSimpArgs false
namespace Go.Bal
open Go Go.Sym Go.Proofs
def timesV (w : Dk) : List Span × Bool := bif stgOk w.c then (narL w (notL w.c), (narL w (notL w.c)).all leM) else ([], false)
def C_times : Ctr := { ro := [100, 101], α := Dk, xs := λ _ => [.bptr 100 0], L := λ w => dkL w, val := λ w => .tup [.d (eSpans (timesV w).1), .bool (timesV w).2], keep := λ w => dkK w, pre := λ w => [1 <= w.c.ms.length /\ w.c.ms.length <= 40 /\ nsIn w.c] }
def A_times : Ann := { ann 19 [(n_all, C_all.spec dDk1), (n_noted, C_not.spec dDk1), (n_narrowed, C_nar.spec dDkS)] with E := [100, 101] }
def V_times (w : Dk) : Prop := fnVC Try.prog A_times F_times (bodyOf F_times) (C_times.xs w) (heapOf (C_times.L w)) (C_times.val w) (C_times.keep w) [] []
abbrev z_times_0 (w : Dk) : Prop := w.c.p.lo = w.c.p.lo
abbrev z_times_1 (w : Dk) : Prop := w.c.p.hi = w.c.p.hi
abbrev z_times_2 (w : Dk) : List Mk := rng w.c.ms.length λ (i : Nat) => gD w.c.ms i
abbrev z_times_3 (w : Dk) : Nat := (z_times_2 w).length
abbrev z_times_4 (w : Dk) : Prop := z_times_3 w = w.c.ms.length
abbrev z_times_5 (w : Dk) (i : Nat) : Mk := gD (z_times_2 w) i
abbrev z_times_6 (w : Dk) (i : Nat) : Int := (z_times_5 w i).pl
abbrev z_times_7 (w : Dk) (i : Nat) : Int := (z_times_5 w i).ht
abbrev z_times_8 (w : Dk) : Prop := ∀ (i : Nat), i < z_times_3 w -> z_times_6 w i = (gD w.c.ms i).pl /\ z_times_7 w i = (gD w.c.ms i).ht
abbrev z_times_9 (w : Dk) : List Nt := rng w.c.ns.length λ (i : Nat) => gD w.c.ns i
abbrev z_times_10 (w : Dk) : Nat := (z_times_9 w).length
abbrev z_times_11 (w : Dk) : Prop := z_times_10 w = w.c.ns.length
abbrev z_times_12 (w : Dk) (i : Nat) : Nt := gD (z_times_9 w) i
abbrev z_times_13 (w : Dk) (i : Nat) : Int := (z_times_12 w i).mi
abbrev z_times_14 (w : Dk) (i : Nat) : Span := (z_times_12 w i).t
abbrev z_times_15 (w : Dk) (i : Nat) : Int := (z_times_14 w i).lo
abbrev z_times_16 (w : Dk) (i : Nat) : Int := (z_times_14 w i).hi
abbrev z_times_17 (w : Dk) (i : Nat) : Span := (z_times_12 w i).s
abbrev z_times_18 (w : Dk) (i : Nat) : Int := (z_times_17 w i).lo
abbrev z_times_19 (w : Dk) (i : Nat) : Int := (z_times_17 w i).hi
abbrev z_times_20 (w : Dk) : Prop := ∀ (i : Nat), i < z_times_10 w -> z_times_13 w i = (gD w.c.ns i).mi /\ z_times_15 w i = (gD w.c.ns i).t.lo /\ z_times_16 w i = (gD w.c.ns i).t.hi /\ z_times_18 w i = (gD w.c.ns i).s.lo /\
 z_times_19 w i = (gD w.c.ns i).s.hi
abbrev z_times_21 (w : Dk) : Prop := ∀ (i : Nat), i < 40 -> w.sp i = w.sp i
abbrev z_times_22 (w : Dk) (n : Int) : Bool := hasN (z_times_9 w) n
abbrev z_times_23 (w : Dk) : Prop := ∀ (n : Int), z_times_22 w n = hasN w.c.ns n
abbrev z_times_24 (w : Dk) : Prop := ∀ (n : Int), w.st n = w.st n
abbrev z_times_25 (w : Dk) (n : Int) : Nt := ntOf (z_times_9 w) n
abbrev z_times_26 (w : Dk) (n : Int) : Int := (z_times_25 w n).mi
abbrev z_times_27 (w : Dk) (n : Int) : Span := (z_times_25 w n).t
abbrev z_times_28 (w : Dk) (n : Int) : Int := (z_times_27 w n).lo
abbrev z_times_29 (w : Dk) (n : Int) : Int := (z_times_27 w n).hi
abbrev z_times_30 (w : Dk) (n : Int) : Span := (z_times_25 w n).s
abbrev z_times_31 (w : Dk) (n : Int) : Int := (z_times_30 w n).lo
abbrev z_times_32 (w : Dk) (n : Int) : Int := (z_times_30 w n).hi
abbrev z_times_33 (w : Dk) : Prop := ∀ (n : Int), z_times_26 w n = (ntOf w.c.ns n).mi /\ z_times_28 w n = (ntOf w.c.ns n).t.lo /\ z_times_29 w n = (ntOf w.c.ns n).t.hi /\ z_times_31 w n = (ntOf w.c.ns n).s.lo /\ z_times_32 w
 n = (ntOf w.c.ns n).s.hi
abbrev z_times_34 (w : Dk) : Prop := w.c.ms.length = z_times_3 w
abbrev z_times_35 (w : Dk) : Prop := ∀ (i : Nat), i < w.c.ms.length -> (gD w.c.ms i).pl = z_times_6 w i /\ (gD w.c.ms i).ht = z_times_7 w i
abbrev z_times_36 (w : Dk) : Prop := w.c.ns.length = z_times_10 w
abbrev z_times_37 (w : Dk) : Prop := ∀ (i : Nat), i < w.c.ns.length -> (gD w.c.ns i).mi = z_times_13 w i /\ (gD w.c.ns i).t.lo = z_times_15 w i /\ (gD w.c.ns i).t.hi = z_times_16 w i /\ (gD w.c.ns i).s.lo = z_times_18 w i /\
 (gD w.c.ns i).s.hi = z_times_19 w i
abbrev z_times_38 (w : Dk) : Prop := ∀ (n : Int), hasN w.c.ns n = z_times_22 w n
abbrev z_times_39 (w : Dk) : Prop := ∀ (n : Int), (ntOf w.c.ns n).mi = z_times_26 w n /\ (ntOf w.c.ns n).t.lo = z_times_28 w n /\ (ntOf w.c.ns n).t.hi = z_times_29 w n /\ (ntOf w.c.ns n).s.lo = z_times_31 w n /\ (ntOf w.c.ns
 n).s.hi = z_times_32 w n
abbrev z_times_40 (w : Dk) : Prop := 1 <= z_times_3 w
abbrev z_times_41 (w : Dk) : Prop := z_times_3 w <= 40
abbrev z_times_42 (w : Dk) : Prop := z_times_40 w /\ z_times_41 w
abbrev z_times_43 (w : Dk) : Cht := Cht.mk w.c.p w.c.base w.c.scale w.c.off (z_times_2 w) (z_times_9 w)
abbrev z_times_44 (w : Dk) : Prop := (timesV w).fst.length = 0
abbrev z_times_45 (w : Dk) : Prop := z_times_0 w /\ z_times_1 w /\ w.c.base = w.c.base /\ w.c.scale = w.c.scale /\ w.c.off = w.c.off /\ w.c.ms.length = w.c.ms.length /\ (∀ (i : Nat), i < w.c.ms.length -> (gD w.c.ms i).pl = (gD
 w.c.ms i).pl /\ (gD w.c.ms i).ht = (gD w.c.ms i).ht) /\ w.c.ns.length = w.c.ns.length /\ (∀ (i : Nat), i < w.c.ns.length -> (gD w.c.ns i).mi = (gD w.c.ns i).mi /\ (gD w.c.ns i).t.lo = (gD w.c.ns i).t.lo /\ (gD w.c.ns i).t.hi =
 (gD w.c.ns i).t.hi /\ (gD w.c.ns i).s.lo = (gD w.c.ns i).s.lo /\ (gD w.c.ns i).s.hi = (gD w.c.ns i).s.hi) /\ z_times_21 w /\ zNt = zNt /\ (∀ (n : Int), hasN w.c.ns n = hasN w.c.ns n) /\ z_times_24 w /\ ∀ (n : Int), (ntOf w.c.ns
 n).mi = (ntOf w.c.ns n).mi /\ (ntOf w.c.ns n).t.lo = (ntOf w.c.ns n).t.lo /\ (ntOf w.c.ns n).t.hi = (ntOf w.c.ns n).t.hi /\ (ntOf w.c.ns n).s.lo = (ntOf w.c.ns n).s.lo /\ (ntOf w.c.ns n).s.hi = (ntOf w.c.ns n).s.hi
abbrev z_times_46 (w : Dk) : List Span := notL (z_times_43 w)
abbrev z_times_47 (w : Dk) : Nat := (z_times_46 w).length
abbrev z_times_48 (w : Dk) (i : Nat) : Span := gD (z_times_46 w) i
abbrev z_times_49 (w : Dk) : List Span := rng (z_times_47 w) λ (i : Nat) => z_times_48 w i
abbrev z_times_50 (w : Dk) : Nat := (z_times_49 w).length
abbrev z_times_51 (w : Dk) (i : Nat) : Span := gD (z_times_49 w) i
abbrev z_times_52 (w : Dk) : List Span := narL (Dk.mk (z_times_43 w) w.st w.sp) (z_times_49 w)
abbrev z_times_53 (w : Dk) (i : Nat) : Span := gD (timesV w).fst i
abbrev z_times_54 (w : Dk) (i : Nat) : Span := gD (z_times_52 w) i
theorem vc_times (w : Dk) : (V_times w) = ((z_times_0 w /\ z_times_1 w /\ w.c.base = w.c.base /\ w.c.scale = w.c.scale /\ w.c.off = w.c.off /\ z_times_4 w /\ z_times_8 w /\ z_times_11 w /\ z_times_20 w /\ z_times_21 w /\ zNt = zNt
 /\ z_times_23 w /\ z_times_24 w /\ z_times_33 w /\ z_times_0 w /\ z_times_1 w /\ w.c.base = w.c.base /\ w.c.scale = w.c.scale /\ w.c.off = w.c.off /\ z_times_34 w /\ z_times_35 w /\ z_times_36 w /\ z_times_37 w /\ z_times_21 w /\ zNt
 = zNt /\ z_times_38 w /\ z_times_24 w /\ z_times_39 w /\ z_times_42 w) /\ bif !stgOk (z_times_43 w) then z_times_44 w /\ z_times_44 w /\ (timesV w).snd = false /\ z_times_45 w else (z_times_0 w /\ z_times_1 w /\ w.c.base =
 w.c.base /\ w.c.scale = w.c.scale /\ w.c.off = w.c.off /\ z_times_4 w /\ z_times_8 w /\ z_times_11 w /\ z_times_20 w /\ z_times_21 w /\ zNt = zNt /\ z_times_23 w /\ z_times_24 w /\ z_times_33 w /\ z_times_0 w /\ z_times_1 w /\
 w.c.base = w.c.base /\ w.c.scale = w.c.scale /\ w.c.off = w.c.off /\ z_times_34 w /\ z_times_35 w /\ z_times_36 w /\ z_times_37 w /\ z_times_21 w /\ zNt = zNt /\ z_times_38 w /\ z_times_24 w /\ z_times_39 w /\ (z_times_40 w /\
 z_times_41 w /\ ∀ (j : Int), z_times_22 w j = true -> 0 <= j /\ j < (↑(z_times_3 w) : Int)) /\ z_times_50 w = z_times_47 w /\ (∀ (i : Nat), i < z_times_50 w -> (z_times_51 w i).lo = (z_times_48 w i).lo /\ (z_times_51 w i).hi =
 (z_times_48 w i).hi) /\ z_times_0 w /\ z_times_1 w /\ w.c.base = w.c.base /\ w.c.scale = w.c.scale /\ w.c.off = w.c.off /\ z_times_4 w /\ z_times_8 w /\ z_times_11 w /\ z_times_20 w /\ z_times_21 w /\ zNt = zNt /\ z_times_23 w /\
 z_times_24 w /\ z_times_33 w /\ z_times_0 w /\ z_times_1 w /\ w.c.base = w.c.base /\ w.c.scale = w.c.scale /\ w.c.off = w.c.off /\ z_times_34 w /\ z_times_35 w /\ z_times_36 w /\ z_times_37 w /\ z_times_21 w /\ zNt = zNt /\
 z_times_38 w /\ z_times_24 w /\ z_times_39 w /\ z_times_50 w = z_times_3 w /\ z_times_42 w) /\ (timesV w).fst.length = (z_times_52 w).length /\ (∀ (i : Nat), i < (timesV w).fst.length -> (z_times_53 w i).lo = (z_times_54 w
 i).lo /\ (z_times_53 w i).hi = (z_times_54 w i).hi) /\ (timesV w).snd = (z_times_52 w).all leM /\ z_times_45 w) := by kernel_rfl
theorem cz_eta (a : CZ) : CZ.mk a.c a.z = a := rfl
theorem notL_len (c : Cht) : (notL c).length = c.ms.length := rng_length _ _
theorem ok_times : SpecOk Try.prog n_times (C_times.spec dDk1) := okC C_times (λ _ => A_times) [] [] fn_times (λ _ => by kernel_rfl) (λ _ => gok_cons ok_all (gok_cons ok_not (gok_cons ok_nar gok_nil))) (λ (w : Dk) h => by
 obtain ⟨h1, h2, h3⟩ : 1 <= w.c.ms.length /\ w.c.ms.length <= 40 /\ nsIn w.c := h
 show V_times w; rw [vc_times]; delta z_times_0 z_times_1 z_times_2 z_times_3 z_times_4 z_times_5 z_times_6 z_times_7 z_times_8 z_times_9 z_times_10 z_times_11 z_times_12 z_times_13 z_times_14 z_times_15 z_times_16 z_times_17 z_times_18 z_times_19 z_times_20 z_times_21 z_times_22 z_times_23 z_times_24 z_times_25 z_times_26 z_times_27 z_times_28 z_times_29 z_times_30 z_times_31 z_times_32 z_times_33 z_times_34 z_times_35 z_times_36 z_times_37 z_times_38 z_times_39 z_times_40 z_times_41 z_times_42 z_times_43 z_times_44 z_times_45 z_times_46 z_times_47 z_times_48 z_times_49 z_times_50 z_times_51 z_times_52 z_times_53 z_times_54; simp only [condP, eq_self, implies_true, and_self, true_and, and_true, true_implies, forall_const, decide_eq_true_eq, decide_eq_false_iff_not, Int.toNat_natCast, dSpan_eSpan, dInt_eInt, dMk_e, dNt_e, dPr_e, Nat.zero_add, Int.zero_sub, Nat.le_eq, Nat.succ_eq_add_one, Nat.add_one_le_iff, Bool.not_eq_true', Bool.not_eq_false', rng_length, dSpan_mk, rng_getD, cht_eta, dk_eta]
 refine ⟨⟨h1, h2⟩, λ h => ?_, λ h => ⟨⟨⟨h1, h2, h3⟩, notL_len _, h1, h2⟩, ?_⟩⟩
 ·unfold timesV; rw [h]; exact ⟨rfl, rfl, rfl⟩
 ·unfold timesV; rw [h]; exact ⟨rfl, λ _ _ => ⟨rfl, rfl⟩, rfl⟩) (λ _ => noI rfl rfl) _
def readE (a : CZ) : Int := bif checkC a.c == 0 then bif okZ a then bif (timesV (begD a)).2 then 0 else 6 else 2 else checkC a.c
def C_rdO : Ctr := { α := CZ, xs := xCZ, val := λ a => .tup [.bptr 0 0, .d (eSpans (timesV (begD a)).1), .d (eSpans (stgL a.c)), .int 0], keep := λ a => dkN (begD a), pre := λ a => [(a.c.ms.length < 4611686018427387904 /\ a.c.ns.length < 4611686018427387904 /\ a.z.length < 4611686018427387904) /\ readE a = 0] }
def C_rdX : Ctr := { α := CZ, xs := xCZ, val := λ a => .tup [.d (.v (.pointer none)), .d nilL, .d nilL, .int (readE a)], keep := λ _ => [], pre := λ a => [(a.c.ms.length < 4611686018427387904 /\ a.c.ns.length < 4611686018427387904 /\ a.z.length < 4611686018427387904) /\ readE a ≠ 0] }
def A_rd : Ann := ann 38 [(n_begun, C_beg.spec dCZ), (n_times, C_times.spec dDk1), (n_all, C_all.spec dDk1)]
def A_rdX : Ann := ann 38 [(n_begun, C_begX.spec dCZ)]
def V_rdO (a : CZ) : Prop := fnVC Try.prog A_rd F_read (bodyOf F_read) (xCZ a) (heapOf []) (C_rdO.val a) (C_rdO.keep a) [(0, 2032), (1, 2033)] []
abbrev z_rdO_0 (a : CZ) : List Mk := rng a.c.ms.length λ (i : Nat) => gD a.c.ms i
abbrev z_rdO_1 (a : CZ) : Nat := (z_rdO_0 a).length
abbrev z_rdO_2 (a : CZ) (i : Nat) : Mk := gD (z_rdO_0 a) i
abbrev z_rdO_3 (a : CZ) : List Nt := rng a.c.ns.length λ (i : Nat) => gD a.c.ns i
abbrev z_rdO_4 (a : CZ) : Nat := (z_rdO_3 a).length
abbrev z_rdO_5 (a : CZ) (i : Nat) : Nt := gD (z_rdO_3 a) i
abbrev z_rdO_6 (a : CZ) (i : Nat) : Span := (z_rdO_5 a i).t
abbrev z_rdO_7 (a : CZ) (i : Nat) : Span := (z_rdO_5 a i).s
abbrev z_rdO_8 (a : CZ) : List Int := rng a.z.length λ (i : Nat) => gD a.z i
abbrev z_rdO_9 (a : CZ) : Nat := (z_rdO_8 a).length
abbrev z_rdO_10 (a : CZ) : Cht := Cht.mk a.c.p a.c.base a.c.scale a.c.off (z_rdO_0 a) (z_rdO_3 a)
abbrev z_rdO_11 (a : CZ) : CZ := CZ.mk (z_rdO_10 a) (z_rdO_8 a)
abbrev z_rdO_12 (a : CZ) : Dk := begD (z_rdO_11 a)
abbrev z_rdO_13 (a : CZ) : Cht := (z_rdO_12 a).c
abbrev z_rdO_14 (a : CZ) : Span := (z_rdO_13 a).p
abbrev z_rdO_15 (a : CZ) : Int := (z_rdO_14 a).lo
abbrev z_rdO_16 (a : CZ) : Prop := z_rdO_15 a = z_rdO_15 a
abbrev z_rdO_17 (a : CZ) : Int := (z_rdO_14 a).hi
abbrev z_rdO_18 (a : CZ) : Prop := z_rdO_17 a = z_rdO_17 a
abbrev z_rdO_19 (a : CZ) : Int := (z_rdO_13 a).base
abbrev z_rdO_20 (a : CZ) : Prop := z_rdO_19 a = z_rdO_19 a
abbrev z_rdO_21 (a : CZ) : Int := (z_rdO_13 a).scale
abbrev z_rdO_22 (a : CZ) : Prop := z_rdO_21 a = z_rdO_21 a
abbrev z_rdO_23 (a : CZ) : Int := (z_rdO_13 a).off
abbrev z_rdO_24 (a : CZ) : Prop := z_rdO_23 a = z_rdO_23 a
abbrev z_rdO_25 (a : CZ) : List Mk := (z_rdO_13 a).ms
abbrev z_rdO_26 (a : CZ) : Nat := (z_rdO_25 a).length
abbrev z_rdO_27 (a : CZ) (i : Nat) : Mk := gD (z_rdO_25 a) i
abbrev z_rdO_28 (a : CZ) : List Mk := rng (z_rdO_26 a) λ (i : Nat) => z_rdO_27 a i
abbrev z_rdO_29 (a : CZ) : Nat := (z_rdO_28 a).length
abbrev z_rdO_30 (a : CZ) : Prop := z_rdO_29 a = z_rdO_26 a
abbrev z_rdO_31 (a : CZ) (i : Nat) : Mk := gD (z_rdO_28 a) i
abbrev z_rdO_32 (a : CZ) (i : Nat) : Int := (z_rdO_31 a i).pl
abbrev z_rdO_33 (a : CZ) (i : Nat) : Int := (z_rdO_27 a i).pl
abbrev z_rdO_34 (a : CZ) (i : Nat) : Int := (z_rdO_31 a i).ht
abbrev z_rdO_35 (a : CZ) (i : Nat) : Int := (z_rdO_27 a i).ht
abbrev z_rdO_36 (a : CZ) : Prop := ∀ (i : Nat), i < z_rdO_29 a -> z_rdO_32 a i = z_rdO_33 a i /\ z_rdO_34 a i = z_rdO_35 a i
abbrev z_rdO_37 (a : CZ) : List Nt := (z_rdO_13 a).ns
abbrev z_rdO_38 (a : CZ) : Nat := (z_rdO_37 a).length
abbrev z_rdO_39 (a : CZ) (i : Nat) : Nt := gD (z_rdO_37 a) i
abbrev z_rdO_40 (a : CZ) : List Nt := rng (z_rdO_38 a) λ (i : Nat) => z_rdO_39 a i
abbrev z_rdO_41 (a : CZ) : Nat := (z_rdO_40 a).length
abbrev z_rdO_42 (a : CZ) : Prop := z_rdO_41 a = z_rdO_38 a
abbrev z_rdO_43 (a : CZ) (i : Nat) : Nt := gD (z_rdO_40 a) i
abbrev z_rdO_44 (a : CZ) (i : Nat) : Int := (z_rdO_43 a i).mi
abbrev z_rdO_45 (a : CZ) (i : Nat) : Int := (z_rdO_39 a i).mi
abbrev z_rdO_46 (a : CZ) (i : Nat) : Span := (z_rdO_43 a i).t
abbrev z_rdO_47 (a : CZ) (i : Nat) : Int := (z_rdO_46 a i).lo
abbrev z_rdO_48 (a : CZ) (i : Nat) : Span := (z_rdO_39 a i).t
abbrev z_rdO_49 (a : CZ) (i : Nat) : Int := (z_rdO_48 a i).lo
abbrev z_rdO_50 (a : CZ) (i : Nat) : Int := (z_rdO_46 a i).hi
abbrev z_rdO_51 (a : CZ) (i : Nat) : Int := (z_rdO_48 a i).hi
abbrev z_rdO_52 (a : CZ) (i : Nat) : Span := (z_rdO_43 a i).s
abbrev z_rdO_53 (a : CZ) (i : Nat) : Int := (z_rdO_52 a i).lo
abbrev z_rdO_54 (a : CZ) (i : Nat) : Span := (z_rdO_39 a i).s
abbrev z_rdO_55 (a : CZ) (i : Nat) : Int := (z_rdO_54 a i).lo
abbrev z_rdO_56 (a : CZ) (i : Nat) : Int := (z_rdO_52 a i).hi
abbrev z_rdO_57 (a : CZ) (i : Nat) : Int := (z_rdO_54 a i).hi
abbrev z_rdO_58 (a : CZ) : Prop := ∀ (i : Nat), i < z_rdO_41 a -> z_rdO_44 a i = z_rdO_45 a i /\ z_rdO_47 a i = z_rdO_49 a i /\ z_rdO_50 a i = z_rdO_51 a i /\ z_rdO_53 a i = z_rdO_55 a i /\ z_rdO_56 a i = z_rdO_57 a i
abbrev z_rdO_59 (a : CZ) (i : Nat) : Bool := (z_rdO_12 a).sp i
abbrev z_rdO_60 (a : CZ) : Prop := ∀ (i : Nat), i < (40 : Nat) -> z_rdO_59 a i = z_rdO_59 a i
abbrev z_rdO_61 (a : CZ) (n : Int) : Bool := hasN (z_rdO_40 a) n
abbrev z_rdO_62 (a : CZ) (n : Int) : Bool := hasN (z_rdO_37 a) n
abbrev z_rdO_63 (a : CZ) : Prop := ∀ (n : Int), z_rdO_61 a n = z_rdO_62 a n
abbrev z_rdO_64 (a : CZ) (n : Int) : Int := (z_rdO_12 a).st n
abbrev z_rdO_65 (a : CZ) : Prop := ∀ (n : Int), z_rdO_64 a n = z_rdO_64 a n
abbrev z_rdO_66 (a : CZ) (n : Int) : Nt := ntOf (z_rdO_40 a) n
abbrev z_rdO_67 (a : CZ) (n : Int) : Int := (z_rdO_66 a n).mi
abbrev z_rdO_68 (a : CZ) (n : Int) : Nt := ntOf (z_rdO_37 a) n
abbrev z_rdO_69 (a : CZ) (n : Int) : Int := (z_rdO_68 a n).mi
abbrev z_rdO_70 (a : CZ) (n : Int) : Span := (z_rdO_66 a n).t
abbrev z_rdO_71 (a : CZ) (n : Int) : Int := (z_rdO_70 a n).lo
abbrev z_rdO_72 (a : CZ) (n : Int) : Span := (z_rdO_68 a n).t
abbrev z_rdO_73 (a : CZ) (n : Int) : Int := (z_rdO_72 a n).lo
abbrev z_rdO_74 (a : CZ) (n : Int) : Int := (z_rdO_70 a n).hi
abbrev z_rdO_75 (a : CZ) (n : Int) : Int := (z_rdO_72 a n).hi
abbrev z_rdO_76 (a : CZ) (n : Int) : Span := (z_rdO_66 a n).s
abbrev z_rdO_77 (a : CZ) (n : Int) : Int := (z_rdO_76 a n).lo
abbrev z_rdO_78 (a : CZ) (n : Int) : Span := (z_rdO_68 a n).s
abbrev z_rdO_79 (a : CZ) (n : Int) : Int := (z_rdO_78 a n).lo
abbrev z_rdO_80 (a : CZ) (n : Int) : Int := (z_rdO_76 a n).hi
abbrev z_rdO_81 (a : CZ) (n : Int) : Int := (z_rdO_78 a n).hi
abbrev z_rdO_82 (a : CZ) : Prop := ∀ (n : Int), z_rdO_67 a n = z_rdO_69 a n /\ z_rdO_71 a n = z_rdO_73 a n /\ z_rdO_74 a n = z_rdO_75 a n /\ z_rdO_77 a n = z_rdO_79 a n /\ z_rdO_80 a n = z_rdO_81 a n
abbrev z_rdO_83 (a : CZ) : Prop := z_rdO_26 a = z_rdO_29 a
abbrev z_rdO_84 (a : CZ) : Prop := ∀ (i : Nat), i < z_rdO_26 a -> z_rdO_33 a i = z_rdO_32 a i /\ z_rdO_35 a i = z_rdO_34 a i
abbrev z_rdO_85 (a : CZ) : Prop := z_rdO_38 a = z_rdO_41 a
abbrev z_rdO_86 (a : CZ) : Prop := ∀ (i : Nat), i < z_rdO_38 a -> z_rdO_45 a i = z_rdO_44 a i /\ z_rdO_49 a i = z_rdO_47 a i /\ z_rdO_51 a i = z_rdO_50 a i /\ z_rdO_55 a i = z_rdO_53 a i /\ z_rdO_57 a i = z_rdO_56 a i
abbrev z_rdO_87 (a : CZ) : Prop := ∀ (n : Int), z_rdO_62 a n = z_rdO_61 a n
abbrev z_rdO_88 (a : CZ) : Prop := ∀ (n : Int), z_rdO_69 a n = z_rdO_67 a n /\ z_rdO_73 a n = z_rdO_71 a n /\ z_rdO_75 a n = z_rdO_74 a n /\ z_rdO_79 a n = z_rdO_77 a n /\ z_rdO_81 a n = z_rdO_80 a n
abbrev z_rdO_89 (a : CZ) : Prop := (1 : Nat) <= z_rdO_29 a
abbrev z_rdO_90 (a : CZ) : Prop := z_rdO_29 a <= (40 : Nat)
abbrev z_rdO_91 (a : CZ) : Cht := Cht.mk (z_rdO_14 a) (z_rdO_19 a) (z_rdO_21 a) (z_rdO_23 a) (z_rdO_28 a) (z_rdO_40 a)
abbrev z_rdO_92 (a : CZ) : List Span × Bool := timesV (Dk.mk (z_rdO_91 a) (z_rdO_12 a).st (z_rdO_12 a).sp)
abbrev z_rdO_93 (a : CZ) : List Span := (z_rdO_92 a).fst
abbrev z_rdO_94 (a : CZ) (i : Nat) : Span := gD (timesV (begD a)).fst i
abbrev z_rdO_95 (a : CZ) (i : Nat) : Span := gD (z_rdO_93 a) i
abbrev z_rdO_96 (a : CZ) : List Span := stgL (z_rdO_91 a)
abbrev z_rdO_97 (a : CZ) (i : Nat) : Span := gD (z_rdO_96 a) i
theorem vc_rdO (a : CZ) : (V_rdO a) = ((a.c.p.lo = a.c.p.lo /\ a.c.p.hi = a.c.p.hi /\ a.c.base = a.c.base /\ a.c.scale = a.c.scale /\ a.c.off = a.c.off /\ z_rdO_1 a = a.c.ms.length /\ (∀ (i : Nat), i < z_rdO_1 a -> (z_rdO_2 a
 i).pl = (gD a.c.ms i).pl /\ (z_rdO_2 a i).ht = (gD a.c.ms i).ht) /\ z_rdO_4 a = a.c.ns.length /\ (∀ (i : Nat), i < z_rdO_4 a -> (z_rdO_5 a i).mi = (gD a.c.ns i).mi /\ (z_rdO_6 a i).lo = (gD a.c.ns i).t.lo /\ (z_rdO_6 a i).hi =
 (gD a.c.ns i).t.hi /\ (z_rdO_7 a i).lo = (gD a.c.ns i).s.lo /\ (z_rdO_7 a i).hi = (gD a.c.ns i).s.hi) /\ z_rdO_9 a = a.z.length /\ (∀ (i : Nat), i < z_rdO_9 a -> gD (z_rdO_8 a) i = gD a.z i) /\ (z_rdO_1 a <
 (4611686018427387904 : Nat) /\ z_rdO_4 a < (4611686018427387904 : Nat) /\ z_rdO_9 a < (4611686018427387904 : Nat)) /\ checkC (z_rdO_10 a) = (0 : Int)) /\ bif begE (z_rdO_11 a) != (0 : Int) then False else (z_rdO_16 a /\
 z_rdO_18 a /\ z_rdO_20 a /\ z_rdO_22 a /\ z_rdO_24 a /\ z_rdO_30 a /\ z_rdO_36 a /\ z_rdO_42 a /\ z_rdO_58 a /\ z_rdO_60 a /\ zNt = zNt /\ z_rdO_63 a /\ z_rdO_65 a /\ z_rdO_82 a /\ z_rdO_16 a /\ z_rdO_18 a /\ z_rdO_20 a /\ z_rdO_22 a /\
 z_rdO_24 a /\ z_rdO_83 a /\ z_rdO_84 a /\ z_rdO_85 a /\ z_rdO_86 a /\ z_rdO_60 a /\ zNt = zNt /\ z_rdO_87 a /\ z_rdO_65 a /\ z_rdO_88 a /\ z_rdO_89 a /\ z_rdO_90 a /\ ∀ (j : Int), z_rdO_61 a j = true -> (0 : Int) <= j /\ j <
 (↑(z_rdO_29 a) : Int)) /\ bif !(z_rdO_92 a).snd then False else (z_rdO_16 a /\ z_rdO_18 a /\ z_rdO_20 a /\ z_rdO_22 a /\ z_rdO_24 a /\ z_rdO_30 a /\ z_rdO_36 a /\ z_rdO_42 a /\ z_rdO_58 a /\ z_rdO_60 a /\ zNt = zNt /\ z_rdO_63 a /\
 z_rdO_65 a /\ z_rdO_82 a /\ z_rdO_16 a /\ z_rdO_18 a /\ z_rdO_20 a /\ z_rdO_22 a /\ z_rdO_24 a /\ z_rdO_83 a /\ z_rdO_84 a /\ z_rdO_85 a /\ z_rdO_86 a /\ z_rdO_60 a /\ zNt = zNt /\ z_rdO_87 a /\ z_rdO_65 a /\ z_rdO_88 a /\ z_rdO_89 a /\
 z_rdO_90 a) /\ (timesV (begD a)).fst.length = (z_rdO_93 a).length /\ (∀ (i : Nat), i < (timesV (begD a)).fst.length -> (z_rdO_94 a i).lo = (z_rdO_95 a i).lo /\ (z_rdO_94 a i).hi = (z_rdO_95 a i).hi) /\ (stgL a.c).length =
 (z_rdO_96 a).length /\ (∀ (i : Nat), i < (stgL a.c).length -> (gD (stgL a.c) i).lo = (z_rdO_97 a i).lo /\ (gD (stgL a.c) i).hi = (z_rdO_97 a i).hi) /\ Int.ofNat (0 : Nat) = Int.ofNat (0 : Nat) /\ (begD a).c.p.lo = z_rdO_15 a
 /\ (begD a).c.p.hi = z_rdO_17 a /\ (begD a).c.base = z_rdO_19 a /\ (begD a).c.scale = z_rdO_21 a /\ (begD a).c.off = z_rdO_23 a /\ (begD a).c.ms.length = z_rdO_26 a /\ (∀ (i : Nat), i < (begD a).c.ms.length -> (gD (begD a).c.ms
 i).pl = z_rdO_33 a i /\ (gD (begD a).c.ms i).ht = z_rdO_35 a i) /\ (begD a).c.ns.length = z_rdO_38 a /\ (∀ (i : Nat), i < (begD a).c.ns.length -> (gD (begD a).c.ns i).mi = z_rdO_45 a i /\ (gD (begD a).c.ns i).t.lo = z_rdO_49
 a i /\ (gD (begD a).c.ns i).t.hi = z_rdO_51 a i /\ (gD (begD a).c.ns i).s.lo = z_rdO_55 a i /\ (gD (begD a).c.ns i).s.hi = z_rdO_57 a i) /\ (∀ (i : Nat), i < (40 : Nat) -> (begD a).sp i = z_rdO_59 a i) /\ zNt = zNt /\ (∀ (n :
 Int), hasN (begD a).c.ns n = z_rdO_62 a n) /\ (∀ (n : Int), (begD a).st n = z_rdO_64 a n) /\ ∀ (n : Int), (ntOf (begD a).c.ns n).mi = z_rdO_69 a n /\ (ntOf (begD a).c.ns n).t.lo = z_rdO_73 a n /\ (ntOf (begD a).c.ns n).t.hi
 = z_rdO_75 a n /\ (ntOf (begD a).c.ns n).s.lo = z_rdO_79 a n /\ (ntOf (begD a).c.ns n).s.hi = z_rdO_81 a n) := by kernel_rfl
def V_rdX2 (a : CZ) : Prop := fnVC Try.prog A_rd F_read (bodyOf F_read) (xCZ a) (heapOf []) (C_rdX.val a) [] [] []
abbrev z_rdX2_0 (a : CZ) : List Mk := rng a.c.ms.length λ (i : Nat) => gD a.c.ms i
abbrev z_rdX2_1 (a : CZ) : Nat := (z_rdX2_0 a).length
abbrev z_rdX2_2 (a : CZ) (i : Nat) : Mk := gD (z_rdX2_0 a) i
abbrev z_rdX2_3 (a : CZ) : List Nt := rng a.c.ns.length λ (i : Nat) => gD a.c.ns i
abbrev z_rdX2_4 (a : CZ) : Nat := (z_rdX2_3 a).length
abbrev z_rdX2_5 (a : CZ) (i : Nat) : Nt := gD (z_rdX2_3 a) i
abbrev z_rdX2_6 (a : CZ) (i : Nat) : Span := (z_rdX2_5 a i).t
abbrev z_rdX2_7 (a : CZ) (i : Nat) : Span := (z_rdX2_5 a i).s
abbrev z_rdX2_8 (a : CZ) : List Int := rng a.z.length λ (i : Nat) => gD a.z i
abbrev z_rdX2_9 (a : CZ) : Nat := (z_rdX2_8 a).length
abbrev z_rdX2_10 (a : CZ) : Cht := Cht.mk a.c.p a.c.base a.c.scale a.c.off (z_rdX2_0 a) (z_rdX2_3 a)
abbrev z_rdX2_11 (a : CZ) : CZ := CZ.mk (z_rdX2_10 a) (z_rdX2_8 a)
abbrev z_rdX2_12 (a : CZ) : Int := begE (z_rdX2_11 a)
abbrev z_rdX2_13 : Prop := 0 = 0
abbrev z_rdX2_14 : Prop := ∀ (i : Nat), i < 0 -> false = false
abbrev z_rdX2_15 (a : CZ) : Dk := begD (z_rdX2_11 a)
abbrev z_rdX2_16 (a : CZ) : Cht := (z_rdX2_15 a).c
abbrev z_rdX2_17 (a : CZ) : Span := (z_rdX2_16 a).p
abbrev z_rdX2_18 (a : CZ) : Int := (z_rdX2_17 a).lo
abbrev z_rdX2_19 (a : CZ) : Prop := z_rdX2_18 a = z_rdX2_18 a
abbrev z_rdX2_20 (a : CZ) : Int := (z_rdX2_17 a).hi
abbrev z_rdX2_21 (a : CZ) : Prop := z_rdX2_20 a = z_rdX2_20 a
abbrev z_rdX2_22 (a : CZ) : Int := (z_rdX2_16 a).base
abbrev z_rdX2_23 (a : CZ) : Prop := z_rdX2_22 a = z_rdX2_22 a
abbrev z_rdX2_24 (a : CZ) : Int := (z_rdX2_16 a).scale
abbrev z_rdX2_25 (a : CZ) : Prop := z_rdX2_24 a = z_rdX2_24 a
abbrev z_rdX2_26 (a : CZ) : Int := (z_rdX2_16 a).off
abbrev z_rdX2_27 (a : CZ) : Prop := z_rdX2_26 a = z_rdX2_26 a
abbrev z_rdX2_28 (a : CZ) : List Mk := (z_rdX2_16 a).ms
abbrev z_rdX2_29 (a : CZ) : Nat := (z_rdX2_28 a).length
abbrev z_rdX2_30 (a : CZ) (i : Nat) : Mk := gD (z_rdX2_28 a) i
abbrev z_rdX2_31 (a : CZ) : List Mk := rng (z_rdX2_29 a) λ (i : Nat) => z_rdX2_30 a i
abbrev z_rdX2_32 (a : CZ) : Nat := (z_rdX2_31 a).length
abbrev z_rdX2_33 (a : CZ) : Prop := z_rdX2_32 a = z_rdX2_29 a
abbrev z_rdX2_34 (a : CZ) (i : Nat) : Mk := gD (z_rdX2_31 a) i
abbrev z_rdX2_35 (a : CZ) (i : Nat) : Int := (z_rdX2_34 a i).pl
abbrev z_rdX2_36 (a : CZ) (i : Nat) : Int := (z_rdX2_30 a i).pl
abbrev z_rdX2_37 (a : CZ) (i : Nat) : Int := (z_rdX2_34 a i).ht
abbrev z_rdX2_38 (a : CZ) (i : Nat) : Int := (z_rdX2_30 a i).ht
abbrev z_rdX2_39 (a : CZ) : Prop := ∀ (i : Nat), i < z_rdX2_32 a -> z_rdX2_35 a i = z_rdX2_36 a i /\ z_rdX2_37 a i = z_rdX2_38 a i
abbrev z_rdX2_40 (a : CZ) : List Nt := (z_rdX2_16 a).ns
abbrev z_rdX2_41 (a : CZ) : Nat := (z_rdX2_40 a).length
abbrev z_rdX2_42 (a : CZ) (i : Nat) : Nt := gD (z_rdX2_40 a) i
abbrev z_rdX2_43 (a : CZ) : List Nt := rng (z_rdX2_41 a) λ (i : Nat) => z_rdX2_42 a i
abbrev z_rdX2_44 (a : CZ) : Nat := (z_rdX2_43 a).length
abbrev z_rdX2_45 (a : CZ) : Prop := z_rdX2_44 a = z_rdX2_41 a
abbrev z_rdX2_46 (a : CZ) (i : Nat) : Nt := gD (z_rdX2_43 a) i
abbrev z_rdX2_47 (a : CZ) (i : Nat) : Int := (z_rdX2_46 a i).mi
abbrev z_rdX2_48 (a : CZ) (i : Nat) : Int := (z_rdX2_42 a i).mi
abbrev z_rdX2_49 (a : CZ) (i : Nat) : Span := (z_rdX2_46 a i).t
abbrev z_rdX2_50 (a : CZ) (i : Nat) : Int := (z_rdX2_49 a i).lo
abbrev z_rdX2_51 (a : CZ) (i : Nat) : Span := (z_rdX2_42 a i).t
abbrev z_rdX2_52 (a : CZ) (i : Nat) : Int := (z_rdX2_51 a i).lo
abbrev z_rdX2_53 (a : CZ) (i : Nat) : Int := (z_rdX2_49 a i).hi
abbrev z_rdX2_54 (a : CZ) (i : Nat) : Int := (z_rdX2_51 a i).hi
abbrev z_rdX2_55 (a : CZ) (i : Nat) : Span := (z_rdX2_46 a i).s
abbrev z_rdX2_56 (a : CZ) (i : Nat) : Int := (z_rdX2_55 a i).lo
abbrev z_rdX2_57 (a : CZ) (i : Nat) : Span := (z_rdX2_42 a i).s
abbrev z_rdX2_58 (a : CZ) (i : Nat) : Int := (z_rdX2_57 a i).lo
abbrev z_rdX2_59 (a : CZ) (i : Nat) : Int := (z_rdX2_55 a i).hi
abbrev z_rdX2_60 (a : CZ) (i : Nat) : Int := (z_rdX2_57 a i).hi
abbrev z_rdX2_61 (a : CZ) : Prop := ∀ (i : Nat), i < z_rdX2_44 a -> z_rdX2_47 a i = z_rdX2_48 a i /\ z_rdX2_50 a i = z_rdX2_52 a i /\ z_rdX2_53 a i = z_rdX2_54 a i /\ z_rdX2_56 a i = z_rdX2_58 a i /\ z_rdX2_59 a i = z_rdX2_60
 a i
abbrev z_rdX2_62 (a : CZ) (i : Nat) : Bool := (z_rdX2_15 a).sp i
abbrev z_rdX2_63 (a : CZ) : Prop := ∀ (i : Nat), i < 40 -> z_rdX2_62 a i = z_rdX2_62 a i
abbrev z_rdX2_64 (a : CZ) (n : Int) : Bool := hasN (z_rdX2_43 a) n
abbrev z_rdX2_65 (a : CZ) (n : Int) : Bool := hasN (z_rdX2_40 a) n
abbrev z_rdX2_66 (a : CZ) : Prop := ∀ (n : Int), z_rdX2_64 a n = z_rdX2_65 a n
abbrev z_rdX2_67 (a : CZ) (n : Int) : Int := (z_rdX2_15 a).st n
abbrev z_rdX2_68 (a : CZ) : Prop := ∀ (n : Int), z_rdX2_67 a n = z_rdX2_67 a n
abbrev z_rdX2_69 (a : CZ) (n : Int) : Nt := ntOf (z_rdX2_43 a) n
abbrev z_rdX2_70 (a : CZ) (n : Int) : Int := (z_rdX2_69 a n).mi
abbrev z_rdX2_71 (a : CZ) (n : Int) : Nt := ntOf (z_rdX2_40 a) n
abbrev z_rdX2_72 (a : CZ) (n : Int) : Int := (z_rdX2_71 a n).mi
abbrev z_rdX2_73 (a : CZ) (n : Int) : Span := (z_rdX2_69 a n).t
abbrev z_rdX2_74 (a : CZ) (n : Int) : Int := (z_rdX2_73 a n).lo
abbrev z_rdX2_75 (a : CZ) (n : Int) : Span := (z_rdX2_71 a n).t
abbrev z_rdX2_76 (a : CZ) (n : Int) : Int := (z_rdX2_75 a n).lo
abbrev z_rdX2_77 (a : CZ) (n : Int) : Int := (z_rdX2_73 a n).hi
abbrev z_rdX2_78 (a : CZ) (n : Int) : Int := (z_rdX2_75 a n).hi
abbrev z_rdX2_79 (a : CZ) (n : Int) : Span := (z_rdX2_69 a n).s
abbrev z_rdX2_80 (a : CZ) (n : Int) : Int := (z_rdX2_79 a n).lo
abbrev z_rdX2_81 (a : CZ) (n : Int) : Span := (z_rdX2_71 a n).s
abbrev z_rdX2_82 (a : CZ) (n : Int) : Int := (z_rdX2_81 a n).lo
abbrev z_rdX2_83 (a : CZ) (n : Int) : Int := (z_rdX2_79 a n).hi
abbrev z_rdX2_84 (a : CZ) (n : Int) : Int := (z_rdX2_81 a n).hi
abbrev z_rdX2_85 (a : CZ) : Prop := ∀ (n : Int), z_rdX2_70 a n = z_rdX2_72 a n /\ z_rdX2_74 a n = z_rdX2_76 a n /\ z_rdX2_77 a n = z_rdX2_78 a n /\ z_rdX2_80 a n = z_rdX2_82 a n /\ z_rdX2_83 a n = z_rdX2_84 a n
abbrev z_rdX2_86 (a : CZ) : Prop := z_rdX2_29 a = z_rdX2_32 a
abbrev z_rdX2_87 (a : CZ) : Prop := ∀ (i : Nat), i < z_rdX2_29 a -> z_rdX2_36 a i = z_rdX2_35 a i /\ z_rdX2_38 a i = z_rdX2_37 a i
abbrev z_rdX2_88 (a : CZ) : Prop := z_rdX2_41 a = z_rdX2_44 a
abbrev z_rdX2_89 (a : CZ) : Prop := ∀ (i : Nat), i < z_rdX2_41 a -> z_rdX2_48 a i = z_rdX2_47 a i /\ z_rdX2_52 a i = z_rdX2_50 a i /\ z_rdX2_54 a i = z_rdX2_53 a i /\ z_rdX2_58 a i = z_rdX2_56 a i /\ z_rdX2_60 a i = z_rdX2_59
 a i
abbrev z_rdX2_90 (a : CZ) : Prop := ∀ (n : Int), z_rdX2_65 a n = z_rdX2_64 a n
abbrev z_rdX2_91 (a : CZ) : Prop := ∀ (n : Int), z_rdX2_72 a n = z_rdX2_70 a n /\ z_rdX2_76 a n = z_rdX2_74 a n /\ z_rdX2_78 a n = z_rdX2_77 a n /\ z_rdX2_82 a n = z_rdX2_80 a n /\ z_rdX2_84 a n = z_rdX2_83 a n
abbrev z_rdX2_92 (a : CZ) : Prop := 1 <= z_rdX2_32 a
abbrev z_rdX2_93 (a : CZ) : Prop := z_rdX2_32 a <= 40
theorem vc_rdX2 (a : CZ) : (V_rdX2 a) = ((a.c.p.lo = a.c.p.lo /\ a.c.p.hi = a.c.p.hi /\ a.c.base = a.c.base /\ a.c.scale = a.c.scale /\ a.c.off = a.c.off /\ z_rdX2_1 a = a.c.ms.length /\ (∀ (i : Nat), i < z_rdX2_1 a ->
 (z_rdX2_2 a i).pl = (gD a.c.ms i).pl /\ (z_rdX2_2 a i).ht = (gD a.c.ms i).ht) /\ z_rdX2_4 a = a.c.ns.length /\ (∀ (i : Nat), i < z_rdX2_4 a -> (z_rdX2_5 a i).mi = (gD a.c.ns i).mi /\ (z_rdX2_6 a i).lo = (gD a.c.ns i).t.lo /\
 (z_rdX2_6 a i).hi = (gD a.c.ns i).t.hi /\ (z_rdX2_7 a i).lo = (gD a.c.ns i).s.lo /\ (z_rdX2_7 a i).hi = (gD a.c.ns i).s.hi) /\ z_rdX2_9 a = a.z.length /\ (∀ (i : Nat), i < z_rdX2_9 a -> gD (z_rdX2_8 a) i = gD a.z i) /\
 (z_rdX2_1 a < 4611686018427387904 /\ z_rdX2_4 a < 4611686018427387904 /\ z_rdX2_9 a < 4611686018427387904) /\ checkC (z_rdX2_10 a) = 0) /\ bif z_rdX2_12 a != 0 then Value.pointer none = Value.pointer none /\ z_rdX2_13 /\
 z_rdX2_14 /\ z_rdX2_13 /\ z_rdX2_14 /\ readE a = z_rdX2_12 a else (z_rdX2_19 a /\ z_rdX2_21 a /\ z_rdX2_23 a /\ z_rdX2_25 a /\ z_rdX2_27 a /\ z_rdX2_33 a /\ z_rdX2_39 a /\ z_rdX2_45 a /\ z_rdX2_61 a /\ z_rdX2_63 a /\ zNt = zNt /\
 z_rdX2_66 a /\ z_rdX2_68 a /\ z_rdX2_85 a /\ z_rdX2_19 a /\ z_rdX2_21 a /\ z_rdX2_23 a /\ z_rdX2_25 a /\ z_rdX2_27 a /\ z_rdX2_86 a /\ z_rdX2_87 a /\ z_rdX2_88 a /\ z_rdX2_89 a /\ z_rdX2_63 a /\ zNt = zNt /\ z_rdX2_90 a /\ z_rdX2_68 a
 /\ z_rdX2_91 a /\ z_rdX2_92 a /\ z_rdX2_93 a /\ ∀ (j : Int), z_rdX2_64 a j = true -> 0 <= j /\ j < (↑(z_rdX2_32 a) : Int)) /\ bif !(timesV (Dk.mk (Cht.mk (z_rdX2_17 a) (z_rdX2_22 a) (z_rdX2_24 a) (z_rdX2_26 a) (z_rdX2_31 a)
 (z_rdX2_43 a)) (z_rdX2_15 a).st (z_rdX2_15 a).sp)).snd then Value.pointer none = Value.pointer none /\ z_rdX2_13 /\ z_rdX2_14 /\ z_rdX2_13 /\ z_rdX2_14 /\ readE a = 6 else (z_rdX2_19 a /\ z_rdX2_21 a /\ z_rdX2_23 a /\ z_rdX2_25
 a /\ z_rdX2_27 a /\ z_rdX2_33 a /\ z_rdX2_39 a /\ z_rdX2_45 a /\ z_rdX2_61 a /\ z_rdX2_63 a /\ zNt = zNt /\ z_rdX2_66 a /\ z_rdX2_68 a /\ z_rdX2_85 a /\ z_rdX2_19 a /\ z_rdX2_21 a /\ z_rdX2_23 a /\ z_rdX2_25 a /\ z_rdX2_27 a /\
 z_rdX2_86 a /\ z_rdX2_87 a /\ z_rdX2_88 a /\ z_rdX2_89 a /\ z_rdX2_63 a /\ zNt = zNt /\ z_rdX2_90 a /\ z_rdX2_68 a /\ z_rdX2_91 a /\ z_rdX2_92 a /\ z_rdX2_93 a) /\ False) := by kernel_rfl
def V_rdX1 (a : CZ) : Prop := fnVC Try.prog A_rdX F_read (bodyOf F_read) (xCZ a) (heapOf []) (C_rdX.val a) [] [] []
theorem vc_rdX1 (a : CZ) : (V_rdX1 a) = ((a.c.p.lo = a.c.p.lo /\ a.c.p.hi = a.c.p.hi /\ a.c.base = a.c.base /\ a.c.scale = a.c.scale /\ a.c.off = a.c.off /\ (rng a.c.ms.length λ (i : Nat) => gD a.c.ms i).length =
 a.c.ms.length /\ (∀ (i : Nat), i < (rng a.c.ms.length λ (i : Nat) => gD a.c.ms i).length -> (gD (rng a.c.ms.length λ (i : Nat) => gD a.c.ms i) i).pl = (gD a.c.ms i).pl /\ (gD (rng a.c.ms.length λ (i : Nat) => gD
 a.c.ms i) i).ht = (gD a.c.ms i).ht) /\ (rng a.c.ns.length λ (i : Nat) => gD a.c.ns i).length = a.c.ns.length /\ (∀ (i : Nat), i < (rng a.c.ns.length λ (i : Nat) => gD a.c.ns i).length -> (gD (rng a.c.ns.length λ (i :
 Nat) => gD a.c.ns i) i).mi = (gD a.c.ns i).mi /\ (gD (rng a.c.ns.length λ (i : Nat) => gD a.c.ns i) i).t.lo = (gD a.c.ns i).t.lo /\ (gD (rng a.c.ns.length λ (i : Nat) => gD a.c.ns i) i).t.hi = (gD a.c.ns i).t.hi /\ (gD
 (rng a.c.ns.length λ (i : Nat) => gD a.c.ns i) i).s.lo = (gD a.c.ns i).s.lo /\ (gD (rng a.c.ns.length λ (i : Nat) => gD a.c.ns i) i).s.hi = (gD a.c.ns i).s.hi) /\ (rng a.z.length λ (i : Nat) => gD a.z i).length =
 a.z.length /\ (∀ (i : Nat), i < (rng a.z.length λ (i : Nat) => gD a.z i).length -> gD (rng a.z.length λ (i : Nat) => gD a.z i) i = gD a.z i) /\ ((rng a.c.ms.length λ (i : Nat) => gD a.c.ms i).length <
 4611686018427387904 /\ (rng a.c.ns.length λ (i : Nat) => gD a.c.ns i).length < 4611686018427387904 /\ (rng a.z.length λ (i : Nat) => gD a.z i).length < 4611686018427387904) /\ checkC (Cht.mk a.c.p a.c.base a.c.scale
 a.c.off (rng a.c.ms.length λ (i : Nat) => gD a.c.ms i) (rng a.c.ns.length λ (i : Nat) => gD a.c.ns i)) ≠ 0) /\ bif begE (CZ.mk (Cht.mk a.c.p a.c.base a.c.scale a.c.off (rng a.c.ms.length λ (i : Nat) => gD a.c.ms i)
 (rng a.c.ns.length λ (i : Nat) => gD a.c.ns i)) (rng a.z.length λ (i : Nat) => gD a.z i)) != 0 then Value.pointer none = Value.pointer none /\ 0 = 0 /\ (∀ (i : Nat), i < 0 -> false = false) /\ 0 = 0 /\ (∀ (i : Nat), i < 0
 -> false = false) /\ readE a = begE (CZ.mk (Cht.mk a.c.p a.c.base a.c.scale a.c.off (rng a.c.ms.length λ (i : Nat) => gD a.c.ms i) (rng a.c.ns.length λ (i : Nat) => gD a.c.ns i)) (rng a.z.length λ (i : Nat) => gD a.z
 i)) else False) := by kernel_rfl
theorem begD_eta (a : CZ) : Dk.mk a.c (begD a).st (begD a).sp = begD a := rfl
theorem nsIn_of {c : Cht} (h : checkC c = 0) : nsIn c /\ ∀ n ∈ c.ns, rightM n c.ms.length = true := by
 obtain ⟨h1, ⟨h2, h3⟩, h4⟩ := headC_len h
 have hr : c.ns.all (λ n => rightM n c.ms.length) = true := by
  cases hq : c.ns.all (λ n => rightM n c.ms.length) with
  | true => rfl
  | false =>
   unfold checkC at h
   rw [h1, hq] at h
   cases hm : (mkC (-1) c.ms != 0) with
   | true =>
    rw [hm] at h
    have h : mkC (-1) c.ms = 0 := h
    rw [h] at hm; cases hm
   | false => rw [hm] at h; cases h
 refine ⟨λ j hj => ?_, λ n hn => List.all_eq_true.1 hr n hn⟩
 unfold hasN at hj
 obtain ⟨x, hx, e⟩ := List.any_eq_true.1 hj
 have e : x.mi = j := by simpa using e
 have := List.all_eq_true.1 hr x hx
 unfold rightM inM wr at this
 rw [w64 (by omega) (by omega)] at this
 simp only [Bool.and_eq_true, decide_eq_true_eq] at this
 omega
theorem readE_0 {a : CZ} (h : readE a = 0) : checkC a.c = 0 /\ okZ a = true /\ (timesV (begD a)).2 = true := by
 unfold readE at h
 cases h1 : (checkC a.c == 0) with
 | false => rw [h1] at h; have h : checkC a.c = 0 := h; rw [h] at h1; cases h1
 | true =>
  rw [h1] at h
  cases h2 : okZ a with
  | false => rw [h2] at h; cases h
  | true =>
   rw [h2] at h
   cases h3 : (timesV (begD a)).2 with
   | false => rw [h3] at h; cases h
   | true => exact ⟨by simpa using h1, rfl, rfl⟩
theorem ok_rdO : SpecOk Try.prog n_read (C_rdO.spec dCZ) := okC C_rdO (λ _ => A_rd) [(0, 2032), (1, 2033)] [] fn_read (λ _ => by kernel_rfl) (λ _ => gok_cons ok_beg (gok_cons ok_times (gok_cons ok_all gok_nil))) (λ (a : CZ) h => by
 obtain ⟨h1, h2⟩ : (a.c.ms.length < 4611686018427387904 /\ a.c.ns.length < 4611686018427387904 /\ a.z.length < 4611686018427387904) /\ readE a = 0 := h
 obtain ⟨c0, c1, c2⟩ := readE_0 h2
 have e : begE a = 0 := by unfold begE; rw [c0, c1]; rfl
 have hl := headC_len c0
 have hn := (nsIn_of c0).1
 show V_rdO a; rw [vc_rdO]; delta z_rdO_0 z_rdO_1 z_rdO_2 z_rdO_3 z_rdO_4 z_rdO_5 z_rdO_6 z_rdO_7 z_rdO_8 z_rdO_9 z_rdO_10 z_rdO_11 z_rdO_12 z_rdO_13 z_rdO_14 z_rdO_15 z_rdO_16 z_rdO_17 z_rdO_18 z_rdO_19 z_rdO_20 z_rdO_21 z_rdO_22 z_rdO_23 z_rdO_24 z_rdO_25 z_rdO_26 z_rdO_27 z_rdO_28 z_rdO_29 z_rdO_30 z_rdO_31 z_rdO_32 z_rdO_33 z_rdO_34 z_rdO_35 z_rdO_36 z_rdO_37 z_rdO_38 z_rdO_39 z_rdO_40 z_rdO_41 z_rdO_42 z_rdO_43 z_rdO_44 z_rdO_45 z_rdO_46 z_rdO_47 z_rdO_48 z_rdO_49 z_rdO_50 z_rdO_51 z_rdO_52 z_rdO_53 z_rdO_54 z_rdO_55 z_rdO_56 z_rdO_57 z_rdO_58 z_rdO_59 z_rdO_60 z_rdO_61 z_rdO_62 z_rdO_63 z_rdO_64 z_rdO_65 z_rdO_66 z_rdO_67 z_rdO_68 z_rdO_69 z_rdO_70 z_rdO_71 z_rdO_72 z_rdO_73 z_rdO_74 z_rdO_75 z_rdO_76 z_rdO_77 z_rdO_78 z_rdO_79 z_rdO_80 z_rdO_81 z_rdO_82 z_rdO_83 z_rdO_84 z_rdO_85 z_rdO_86 z_rdO_87 z_rdO_88 z_rdO_89 z_rdO_90 z_rdO_91 z_rdO_92 z_rdO_93 z_rdO_94 z_rdO_95 z_rdO_96 z_rdO_97; simp only [condP, eq_self, implies_true, and_self, true_and, and_true, true_implies, forall_const, decide_eq_true_eq, decide_eq_false_iff_not, Int.toNat_natCast, dSpan_eSpan, dInt_eInt, dMk_e, dNt_e, dPr_e, Nat.zero_add, Int.zero_sub, Nat.le_eq, Nat.succ_eq_add_one, Nat.add_one_le_iff, Bool.not_eq_true', Bool.not_eq_false', rng_length, dSpan_mk, rng_getD, cht_eta, dk_eta, begD_c, cz_eta, begD_eta, e, c2]
 exact ⟨⟨h1, c0⟩, (λ h => by simp at h), λ _ => ⟨⟨by omega, by omega, hn⟩, (λ h => by cases h), by omega, by omega⟩⟩) (λ _ => noI rfl rfl) _
theorem ok_rdX : SpecOk Try.prog n_read (C_rdX.spec dCZ) := okT C_rdX (λ (a : CZ) h => by
 obtain ⟨h1, h2⟩ : (a.c.ms.length < 4611686018427387904 /\ a.c.ns.length < 4611686018427387904 /\ a.z.length < 4611686018427387904) /\ readE a ≠ 0 := h
 by_cases c0 : checkC a.c = 0
 ·have e : begE a = bif okZ a then 0 else 2 := by unfold begE; rw [c0]; rfl
  have e2 : readE a = bif okZ a then bif (timesV (begD a)).2 then 0 else 6 else 2 := by unfold readE; rw [c0]; rfl
  have hl := headC_len c0
  have hn := (nsIn_of c0).1
  refine fnt (A := A_rd) (L := []) (keep := []) (ren := []) (fz := []) fn_read (by kernel_rfl) (gok_cons ok_beg (gok_cons ok_times (gok_cons ok_all gok_nil))) ?_
  show V_rdX2 a; rw [vc_rdX2]; delta z_rdX2_0 z_rdX2_1 z_rdX2_2 z_rdX2_3 z_rdX2_4 z_rdX2_5 z_rdX2_6 z_rdX2_7 z_rdX2_8 z_rdX2_9 z_rdX2_10 z_rdX2_11 z_rdX2_12 z_rdX2_13 z_rdX2_14 z_rdX2_15 z_rdX2_16 z_rdX2_17 z_rdX2_18 z_rdX2_19 z_rdX2_20 z_rdX2_21 z_rdX2_22 z_rdX2_23 z_rdX2_24 z_rdX2_25 z_rdX2_26 z_rdX2_27 z_rdX2_28 z_rdX2_29 z_rdX2_30 z_rdX2_31 z_rdX2_32 z_rdX2_33 z_rdX2_34 z_rdX2_35 z_rdX2_36 z_rdX2_37 z_rdX2_38 z_rdX2_39 z_rdX2_40 z_rdX2_41 z_rdX2_42 z_rdX2_43 z_rdX2_44 z_rdX2_45 z_rdX2_46 z_rdX2_47 z_rdX2_48 z_rdX2_49 z_rdX2_50 z_rdX2_51 z_rdX2_52 z_rdX2_53 z_rdX2_54 z_rdX2_55 z_rdX2_56 z_rdX2_57 z_rdX2_58 z_rdX2_59 z_rdX2_60 z_rdX2_61 z_rdX2_62 z_rdX2_63 z_rdX2_64 z_rdX2_65 z_rdX2_66 z_rdX2_67 z_rdX2_68 z_rdX2_69 z_rdX2_70 z_rdX2_71 z_rdX2_72 z_rdX2_73 z_rdX2_74 z_rdX2_75 z_rdX2_76 z_rdX2_77 z_rdX2_78 z_rdX2_79 z_rdX2_80 z_rdX2_81 z_rdX2_82 z_rdX2_83 z_rdX2_84 z_rdX2_85 z_rdX2_86 z_rdX2_87 z_rdX2_88 z_rdX2_89 z_rdX2_90 z_rdX2_91 z_rdX2_92 z_rdX2_93; simp only [condP, eq_self, implies_true, and_self, true_and, and_true, true_implies, forall_const, decide_eq_true_eq, decide_eq_false_iff_not, Int.toNat_natCast, dSpan_eSpan, dInt_eInt, dMk_e, dNt_e, dPr_e, Nat.zero_add, Int.zero_sub, Nat.le_eq, Nat.succ_eq_add_one, Nat.add_one_le_iff, Bool.not_eq_true', Bool.not_eq_false', rng_length, dSpan_mk, rng_getD, cht_eta, dk_eta, begD_c, cz_eta, begD_eta, e]
  rw [e2] at h2 ⊢
  refine ⟨⟨h1, c0⟩, ?_⟩
  cases ho : okZ a with
  | false => exact ⟨λ _ => rfl, λ h => by simp at h⟩
  | true =>
   rw [ho] at h2
   cases hq : (timesV (begD a)).2 with
   | false => exact ⟨λ h => by simp at h, λ _ => ⟨⟨by omega, by omega, hn⟩, λ _ => rfl, λ h => by cases h⟩⟩
   | true => rw [hq] at h2; exact absurd rfl h2
 ·have c0' : (checkC a.c == 0) = false := by simpa using c0
  have e : begE a = checkC a.c := by unfold begE; rw [c0']; rfl
  have e2 : readE a = checkC a.c := by unfold readE; rw [c0']; rfl
  refine fnt (A := A_rdX) (L := []) (keep := []) (ren := []) (fz := []) fn_read (by kernel_rfl) (gok_cons ok_begX gok_nil) ?_
  show V_rdX1 a; rw [vc_rdX1]; simp only [condP, eq_self, implies_true, and_self, true_and, and_true, true_implies, forall_const, decide_eq_true_eq, decide_eq_false_iff_not, Int.toNat_natCast, dSpan_eSpan, dInt_eInt, dMk_e, dNt_e, dPr_e, Nat.zero_add, Int.zero_sub, Nat.le_eq, Nat.succ_eq_add_one, Nat.add_one_le_iff, Bool.not_eq_true', Bool.not_eq_false', rng_length, dSpan_mk, rng_getD, cht_eta, cz_eta, e, e2]
  simp [h1, c0]) _
def timR (a : CZ) : List Span × Int := bif readE a == 0 then ((timesV (begD a)).1, 0) else ([], readE a)
def C_Times : Ctr := { α := CZ, xs := xCZ, val := λ a => .tup [.d (eSpans (timR a).1), .int (timR a).2], keep := λ _ => [], pre := λ a => [a.c.ms.length < 4611686018427387904 /\ a.c.ns.length < 4611686018427387904 /\ a.z.length < 4611686018427387904] }
def A_TiO : Ann := ann 20 [(n_read, C_rdO.spec dCZ)]
def A_TiX : Ann := ann 20 [(n_read, C_rdX.spec dCZ)]
def V_TiO (a : CZ) : Prop := fnVC Try.prog A_TiO F_Times (bodyOf F_Times) (xCZ a) (heapOf []) (.tup [.d (eSpans (timesV (begD a)).1), .int 0]) [] [] []
theorem vc_TiO (a : CZ) : (V_TiO a) = ((a.c.p.lo = a.c.p.lo /\ a.c.p.hi = a.c.p.hi /\ a.c.base = a.c.base /\ a.c.scale = a.c.scale /\ a.c.off = a.c.off /\ (rng a.c.ms.length λ (i : Nat) => gD a.c.ms i).length =
 a.c.ms.length /\ (∀ (i : Nat), i < (rng a.c.ms.length λ (i : Nat) => gD a.c.ms i).length -> (gD (rng a.c.ms.length λ (i : Nat) => gD a.c.ms i) i).pl = (gD a.c.ms i).pl /\ (gD (rng a.c.ms.length λ (i : Nat) => gD
 a.c.ms i) i).ht = (gD a.c.ms i).ht) /\ (rng a.c.ns.length λ (i : Nat) => gD a.c.ns i).length = a.c.ns.length /\ (∀ (i : Nat), i < (rng a.c.ns.length λ (i : Nat) => gD a.c.ns i).length -> (gD (rng a.c.ns.length λ (i :
 Nat) => gD a.c.ns i) i).mi = (gD a.c.ns i).mi /\ (gD (rng a.c.ns.length λ (i : Nat) => gD a.c.ns i) i).t.lo = (gD a.c.ns i).t.lo /\ (gD (rng a.c.ns.length λ (i : Nat) => gD a.c.ns i) i).t.hi = (gD a.c.ns i).t.hi /\ (gD
 (rng a.c.ns.length λ (i : Nat) => gD a.c.ns i) i).s.lo = (gD a.c.ns i).s.lo /\ (gD (rng a.c.ns.length λ (i : Nat) => gD a.c.ns i) i).s.hi = (gD a.c.ns i).s.hi) /\ (rng a.z.length λ (i : Nat) => gD a.z i).length =
 a.z.length /\ (∀ (i : Nat), i < (rng a.z.length λ (i : Nat) => gD a.z i).length -> gD (rng a.z.length λ (i : Nat) => gD a.z i) i = gD a.z i) /\ ((rng a.c.ms.length λ (i : Nat) => gD a.c.ms i).length <
 (4611686018427387904 : Nat) /\ (rng a.c.ns.length λ (i : Nat) => gD a.c.ns i).length < (4611686018427387904 : Nat) /\ (rng a.z.length λ (i : Nat) => gD a.z i).length < (4611686018427387904 : Nat)) /\ readE (CZ.mk
 (Cht.mk a.c.p a.c.base a.c.scale a.c.off (rng a.c.ms.length λ (i : Nat) => gD a.c.ms i) (rng a.c.ns.length λ (i : Nat) => gD a.c.ns i)) (rng a.z.length λ (i : Nat) => gD a.z i)) = (0 : Int)) /\ (timesV (begD
 a)).fst.length = (timesV (begD (CZ.mk (Cht.mk a.c.p a.c.base a.c.scale a.c.off (rng a.c.ms.length λ (i : Nat) => gD a.c.ms i) (rng a.c.ns.length λ (i : Nat) => gD a.c.ns i)) (rng a.z.length λ (i : Nat) => gD a.z
 i)))).fst.length /\ (∀ (i : Nat), i < (timesV (begD a)).fst.length -> (gD (timesV (begD a)).fst i).lo = (gD (timesV (begD (CZ.mk (Cht.mk a.c.p a.c.base a.c.scale a.c.off (rng a.c.ms.length λ (i : Nat) => gD a.c.ms i)
 (rng a.c.ns.length λ (i : Nat) => gD a.c.ns i)) (rng a.z.length λ (i : Nat) => gD a.z i)))).fst i).lo /\ (gD (timesV (begD a)).fst i).hi = (gD (timesV (begD (CZ.mk (Cht.mk a.c.p a.c.base a.c.scale a.c.off (rng
 a.c.ms.length λ (i : Nat) => gD a.c.ms i) (rng a.c.ns.length λ (i : Nat) => gD a.c.ns i)) (rng a.z.length λ (i : Nat) => gD a.z i)))).fst i).hi) /\ Int.ofNat (0 : Nat) = Int.ofNat (0 : Nat)) := by kernel_rfl
def V_TiX (a : CZ) : Prop := fnVC Try.prog A_TiX F_Times (bodyOf F_Times) (xCZ a) (heapOf []) (.tup [.d (eSpans nilS), .int (readE a)]) [] [] []
theorem vc_TiX (a : CZ) : (V_TiX a) = ((a.c.p.lo = a.c.p.lo /\ a.c.p.hi = a.c.p.hi /\ a.c.base = a.c.base /\ a.c.scale = a.c.scale /\ a.c.off = a.c.off /\ (rng a.c.ms.length λ (i : Nat) => gD a.c.ms i).length =
 a.c.ms.length /\ (∀ (i : Nat), i < (rng a.c.ms.length λ (i : Nat) => gD a.c.ms i).length -> (gD (rng a.c.ms.length λ (i : Nat) => gD a.c.ms i) i).pl = (gD a.c.ms i).pl /\ (gD (rng a.c.ms.length λ (i : Nat) => gD
 a.c.ms i) i).ht = (gD a.c.ms i).ht) /\ (rng a.c.ns.length λ (i : Nat) => gD a.c.ns i).length = a.c.ns.length /\ (∀ (i : Nat), i < (rng a.c.ns.length λ (i : Nat) => gD a.c.ns i).length -> (gD (rng a.c.ns.length λ (i :
 Nat) => gD a.c.ns i) i).mi = (gD a.c.ns i).mi /\ (gD (rng a.c.ns.length λ (i : Nat) => gD a.c.ns i) i).t.lo = (gD a.c.ns i).t.lo /\ (gD (rng a.c.ns.length λ (i : Nat) => gD a.c.ns i) i).t.hi = (gD a.c.ns i).t.hi /\ (gD
 (rng a.c.ns.length λ (i : Nat) => gD a.c.ns i) i).s.lo = (gD a.c.ns i).s.lo /\ (gD (rng a.c.ns.length λ (i : Nat) => gD a.c.ns i) i).s.hi = (gD a.c.ns i).s.hi) /\ (rng a.z.length λ (i : Nat) => gD a.z i).length =
 a.z.length /\ (∀ (i : Nat), i < (rng a.z.length λ (i : Nat) => gD a.z i).length -> gD (rng a.z.length λ (i : Nat) => gD a.z i) i = gD a.z i) /\ ((rng a.c.ms.length λ (i : Nat) => gD a.c.ms i).length <
 4611686018427387904 /\ (rng a.c.ns.length λ (i : Nat) => gD a.c.ns i).length < 4611686018427387904 /\ (rng a.z.length λ (i : Nat) => gD a.z i).length < 4611686018427387904) /\ readE (CZ.mk (Cht.mk a.c.p a.c.base
 a.c.scale a.c.off (rng a.c.ms.length λ (i : Nat) => gD a.c.ms i) (rng a.c.ns.length λ (i : Nat) => gD a.c.ns i)) (rng a.z.length λ (i : Nat) => gD a.z i)) ≠ 0) /\ 0 = 0 /\ 0 = 0 /\ readE a = readE (CZ.mk (Cht.mk a.c.p
 a.c.base a.c.scale a.c.off (rng a.c.ms.length λ (i : Nat) => gD a.c.ms i) (rng a.c.ns.length λ (i : Nat) => gD a.c.ns i)) (rng a.z.length λ (i : Nat) => gD a.z i))) := by kernel_rfl
theorem ok_Times : SpecOk Try.prog n_Times (C_Times.spec dCZ) := okT C_Times (λ (a : CZ) h => by
 have h1 : a.c.ms.length < 4611686018427387904 /\ a.c.ns.length < 4611686018427387904 /\ a.z.length < 4611686018427387904 := h
 by_cases c0 : readE a = 0
 ·have e : C_Times.val a = .tup [.d (eSpans (timesV (begD a)).1), .int 0] := by
   show AVal.tup [.d (eSpans (timR a).1), .int (timR a).2] = _
   unfold timR; rw [c0]; rfl
  rw [e]
  refine fnt (A := A_TiO) (L := []) (keep := []) (ren := []) (fz := []) fn_Times (by kernel_rfl) (gok_cons ok_rdO gok_nil) ?_
  show V_TiO a; rw [vc_TiO]; simp only [condP, eq_self, implies_true, and_self, true_and, and_true, true_implies, forall_const, decide_eq_true_eq, decide_eq_false_iff_not, Int.toNat_natCast, dSpan_eSpan, dInt_eInt, dMk_e, dNt_e, dPr_e, Nat.zero_add, Int.zero_sub, Nat.le_eq, Nat.succ_eq_add_one, Nat.add_one_le_iff, Bool.not_eq_true', Bool.not_eq_false', rng_length, dSpan_mk, rng_getD, cht_eta, cz_eta]
  simp [h1, c0]
 ·have c0' : (readE a == 0) = false := by simpa using c0
  have e : C_Times.val a = .tup [.d (eSpans nilS), .int (readE a)] := by
   show AVal.tup [.d (eSpans (timR a).1), .int (timR a).2] = _
   unfold timR; rw [c0']; rfl
  rw [e]
  refine fnt (A := A_TiX) (L := []) (keep := []) (ren := []) (fz := []) fn_Times (by kernel_rfl) (gok_cons ok_rdX gok_nil) ?_
  show V_TiX a; rw [vc_TiX]; simp only [condP, eq_self, implies_true, and_self, true_and, and_true, true_implies, forall_const, decide_eq_true_eq, decide_eq_false_iff_not, Int.toNat_natCast, dSpan_eSpan, dInt_eInt, dMk_e, dNt_e, dPr_e, Nat.zero_add, Int.zero_sub, Nat.le_eq, Nat.succ_eq_add_one, Nat.add_one_le_iff, Bool.not_eq_true', Bool.not_eq_false', rng_length, dSpan_mk, rng_getD, cht_eta, cz_eta]
  simp [h1, c0, nilS]) _
end Go.Bal
