/- Package rating: Reach. -/
import Derived.Test.YtoihhodbkimedaaRatJ
set_option linter.unusedVariables false
set_option linter.unusedSimpArgs false
namespace Go.Bal
open Go Go.Sym Go.Proofs
structure GBu where
 a : GBt
 u : Bool
def dGBu : List AVal -> Heap -> Option (GBu × List (Nat × Nat) × List Nat)
 | [x, y, .d t, .d u], H => match dGaus x H, dInts y H with
  | some (l, f), some (m, e) => some (⟨⟨l, m, dInt t⟩, dBool u⟩, [], f ++ e)
  | _, _ => none
 | _, _ => none
def xGBu (x : GBu) : List AVal := [.d (eGaus x.a.g), .d (eIntsL x.a.b), .int x.a.t, .bool x.u]
def rchL (x : GBu) : Ln := bif flowE x.a == 0 then (bif x.u then bestM gtR x.a.t (lB (bkT x.a)) else bestM ltR x.a.t (lB (bkT x.a))) else default
def C_Reach : Ctr := { α := GBu, xs := xGBu, L := λ _ => [], val := λ x => .tup [.d (eLn (rchL x)), .int (flowE x.a)], keep := λ _ => [], pre := λ x => [preT x.a /\ True] }
def G_rch (c : Sym.Spec) : List (FuncId × Sym.Spec) := [(n_staged, c), (n_less, C_less.spec d0), (n_more, C_more.spec d0), (n_best, orS ((C_best ltR n_less1).spec (dBkT n_less1)) ((C_best gtR n_more1).spec (dBkT n_more1)))]
def A_ReachG : Ann := ann 40 (G_rch (C_stg.spec dGBt))
def A_ReachA : Ann := ann 40 (G_rch (C_stgA.spec dGBt))
def A_ReachX : Ann := { ann 40 (G_rch (C_stgX.spec dGBt)) with cut := λ id => if id = 4 then some [] else none }
def V_ReachG (x : GBu) : Prop := fnVC Try.prog A_ReachG F_Reach (bodyOf F_Reach) (xGBu x) (heapOf []) (C_Reach.val x) [] [] []
abbrev z_ReachG_0 (x : GBu) : List Gau := rng x.a.g.length λ (i : Nat) => gD x.a.g i
abbrev z_ReachG_1 (x : GBu) : Nat := (z_ReachG_0 x).length
abbrev z_ReachG_2 (x : GBu) (i : Nat) : Gau := gD (z_ReachG_0 x) i
abbrev z_ReachG_3 (x : GBu) : List Int := rng x.a.b.length λ (i : Nat) => gD x.a.b i
abbrev z_ReachG_4 (x : GBu) : Nat := (z_ReachG_3 x).length
abbrev z_ReachG_5 (x : GBu) : GBt := GBt.mk (z_ReachG_0 x) (z_ReachG_3 x) x.a.t
abbrev z_ReachG_6 (x : GBu) : GB := gbt (z_ReachG_5 x)
abbrev z_ReachG_7 (x : GBu) : Bk := newB (z_ReachG_6 x)
abbrev z_ReachG_8 (x : GBu) : List Gau := (z_ReachG_7 x).g
abbrev z_ReachG_9 (x : GBu) : Nat := (z_ReachG_8 x).length
abbrev z_ReachG_10 (x : GBu) (i : Nat) : Gau := gD (z_ReachG_8 x) i
abbrev z_ReachG_11 (x : GBu) : List Gau := rng (z_ReachG_9 x) λ (i : Nat) => z_ReachG_10 x i
abbrev z_ReachG_12 (x : GBu) : Nat := (z_ReachG_11 x).length
abbrev z_ReachG_13 (x : GBu) (i : Nat) : Gau := gD (z_ReachG_11 x) i
abbrev z_ReachG_14 (x : GBu) (i : Nat) : Int := (z_ReachG_10 x i).st
abbrev z_ReachG_15 (x : GBu) (i : Nat) : Int := (z_ReachG_10 x i).lo
abbrev z_ReachG_16 (x : GBu) (i : Nat) : Int := (z_ReachG_10 x i).hi
abbrev z_ReachG_17 (x : GBu) : List Int := (z_ReachG_7 x).b
abbrev z_ReachG_18 (x : GBu) : Nat := (z_ReachG_17 x).length
abbrev z_ReachG_19 (x : GBu) (i : Nat) : Int := gD (z_ReachG_17 x) i
abbrev z_ReachG_20 (x : GBu) : List Int := rng (z_ReachG_18 x) λ (i : Nat) => z_ReachG_19 x i
abbrev z_ReachG_21 (x : GBu) : Nat := (z_ReachG_20 x).length
abbrev z_ReachG_22 : Value := Value.slice none 0 0
abbrev z_ReachG_23 (x : GBu) (n : Int) : Int := (z_ReachG_7 x).st n
abbrev z_ReachG_24 (x : GBu) : Bk := Bk.mk (z_ReachG_11 x) (z_ReachG_20 x) (z_ReachG_7 x).has (z_ReachG_7 x).st
abbrev z_ReachG_25 (x : GBu) (n : Int) : List Ln := fdM (z_ReachG_24 x) n
abbrev z_ReachG_26 (x : GBu) (n : Int) : Nat := (z_ReachG_25 x n).length
abbrev z_ReachG_27 (x : GBu) (n : Int) : List Ln := fdM (z_ReachG_7 x) n
abbrev z_ReachG_28 (x : GBu) (n : Int) (i : Nat) : Ln := gD (z_ReachG_25 x n) i
abbrev z_ReachG_29 (x : GBu) (n : Int) (i : Nat) : Ln := gD (z_ReachG_27 x n) i
abbrev z_ReachG_30 (x : GBu) : BkT := BkT.mk (z_ReachG_24 x) x.a.t
abbrev z_ReachG_31 (x : GBu) : Bk := upB (z_ReachG_24 x) (kB (z_ReachG_30 x))
abbrev z_ReachG_32 (x : GBu) : List Gau := (z_ReachG_31 x).g
abbrev z_ReachG_33 (x : GBu) (i : Nat) : Gau := gD (z_ReachG_32 x) i
abbrev z_ReachG_34 (x : GBu) : List Int := (z_ReachG_31 x).b
abbrev z_ReachG_35 (x : GBu) : Prop := x.a.t = x.a.t /\ z_ReachG_12 x = z_ReachG_9 x /\ (∀ (i : Nat), i < z_ReachG_12 x -> (z_ReachG_13 x i).st = z_ReachG_14 x i /\ (z_ReachG_13 x i).lo = z_ReachG_15 x i /\ (z_ReachG_13 x
 i).hi = z_ReachG_16 x i) /\ z_ReachG_21 x = z_ReachG_18 x /\ (∀ (i : Nat), i < z_ReachG_21 x -> gD (z_ReachG_20 x) i = z_ReachG_19 x i) /\ z_ReachG_22 = z_ReachG_22 /\ (∀ (n : Int), false = false) /\ (∀ (n : Int), z_ReachG_23
 x n = z_ReachG_23 x n) /\ (∀ (n : Int), z_ReachG_26 x n = (z_ReachG_27 x n).length /\ ∀ (i : Nat), i < z_ReachG_26 x n -> (z_ReachG_28 x n i).a0 = (z_ReachG_29 x n i).a0 /\ (z_ReachG_28 x n i).a1 = (z_ReachG_29 x n i).a1 /\
 (z_ReachG_28 x n i).b0 = (z_ReachG_29 x n i).b0 /\ (z_ReachG_28 x n i).b1 = (z_ReachG_29 x n i).b1) /\ z_ReachG_9 x = (z_ReachG_32 x).length /\ (∀ (i : Nat), i < z_ReachG_9 x -> z_ReachG_14 x i = (z_ReachG_33 x i).st /\
 z_ReachG_15 x i = (z_ReachG_33 x i).lo /\ z_ReachG_16 x i = (z_ReachG_33 x i).hi) /\ z_ReachG_18 x = (z_ReachG_34 x).length /\ (∀ (i : Nat), i < z_ReachG_18 x -> z_ReachG_19 x i = gD (z_ReachG_34 x) i) /\ (z_ReachG_12 x <= 24
 /\ (∀ (x_1 : Gau), List.Mem x_1 (z_ReachG_11 x) -> 0 <= x_1.st /\ x_1.st <= 2000 /\ 0 <= x_1.lo /\ x_1.lo <= x_1.hi /\ x_1.hi <= 200000) /\ z_ReachG_21 x <= 24 /\ List.Pairwise (λ (x1 x2 : Int) => x1 < x2) (z_ReachG_20 x) /\ ∀ (x_1 :
 Int), List.Mem x_1 (z_ReachG_20 x) -> 1 <= x_1 /\ x_1 <= 2000) /\ 0 <= x.a.t /\ x.a.t <= 2000
abbrev z_ReachG_36 (x : GBu) : List Ln := lB (z_ReachG_30 x)
abbrev z_ReachG_37 (x : GBu) : Nat := (z_ReachG_36 x).length
abbrev z_ReachG_38 (x : GBu) : Bool := !decide (z_ReachG_37 x ≠ 0)
abbrev z_ReachG_39 (x : GBu) : Prop := (rchL x).a0 = 0 /\ (rchL x).a1 = 0 /\ (rchL x).b0 = 0 /\ (rchL x).b1 = 0 /\ flowE x.a = 6
abbrev z_ReachG_40 (x : GBu) : Bool := decide (z_ReachG_37 x = 0)
abbrev z_ReachG_41 (x : GBu) : Ln := bif z_ReachG_40 x then default else bestM gtR x.a.t (z_ReachG_36 x)
abbrev z_ReachG_42 (x : GBu) : Prop := flowE x.a = 0
abbrev z_ReachG_43 (x : GBu) : Ln := bif z_ReachG_40 x then default else bestM ltR x.a.t (z_ReachG_36 x)
theorem vc_ReachG (x : GBu) : (V_ReachG x) = ((z_ReachG_1 x = x.a.g.length /\ (∀ (i : Nat), i < z_ReachG_1 x -> (z_ReachG_2 x i).st = (gD x.a.g i).st /\ (z_ReachG_2 x i).lo = (gD x.a.g i).lo /\ (z_ReachG_2 x i).hi = (gD
 x.a.g i).hi) /\ z_ReachG_4 x = x.a.b.length /\ (∀ (i : Nat), i < z_ReachG_4 x -> gD (z_ReachG_3 x) i = gD x.a.b i) /\ x.a.t = x.a.t /\ (z_ReachG_1 x < 4611686018427387904 /\ z_ReachG_4 x < 4611686018427387904) /\ openE
 (z_ReachG_6 x) = 0 /\ inT (z_ReachG_5 x) = true) /\ bif x.u then z_ReachG_35 x /\ bif z_ReachG_38 x then z_ReachG_39 x else (rchL x).a0 = (z_ReachG_41 x).a0 /\ (rchL x).a1 = (z_ReachG_41 x).a1 /\ (rchL x).b0 = (z_ReachG_41
 x).b0 /\ (rchL x).b1 = (z_ReachG_41 x).b1 /\ z_ReachG_42 x else z_ReachG_35 x /\ bif z_ReachG_38 x then z_ReachG_39 x else (rchL x).a0 = (z_ReachG_43 x).a0 /\ (rchL x).a1 = (z_ReachG_43 x).a1 /\ (rchL x).b0 = (z_ReachG_43
 x).b0 /\ (rchL x).b1 = (z_ReachG_43 x).b1 /\ z_ReachG_42 x) := by kernel_rfl
def V_ReachA (x : GBu) : Prop := fnVC Try.prog A_ReachA F_Reach (bodyOf F_Reach) (xGBu x) (heapOf []) (C_Reach.val x) [] [] []
theorem vc_ReachA (x : GBu) : (V_ReachA x) = (((rng x.a.g.length λ (i : Nat) => gD x.a.g i).length = x.a.g.length /\ (∀ (i : Nat), i < (rng x.a.g.length λ (i : Nat) => gD x.a.g i).length -> (gD (rng x.a.g.length λ (i
 : Nat) => gD x.a.g i) i).st = (gD x.a.g i).st /\ (gD (rng x.a.g.length λ (i : Nat) => gD x.a.g i) i).lo = (gD x.a.g i).lo /\ (gD (rng x.a.g.length λ (i : Nat) => gD x.a.g i) i).hi = (gD x.a.g i).hi) /\ (rng x.a.b.length
 λ (i : Nat) => gD x.a.b i).length = x.a.b.length /\ (∀ (i : Nat), i < (rng x.a.b.length λ (i : Nat) => gD x.a.b i).length -> gD (rng x.a.b.length λ (i : Nat) => gD x.a.b i) i = gD x.a.b i) /\ x.a.t = x.a.t /\ ((rng
 x.a.g.length λ (i : Nat) => gD x.a.g i).length < 4611686018427387904 /\ (rng x.a.b.length λ (i : Nat) => gD x.a.b i).length < 4611686018427387904) /\ openE (gbt (GBt.mk (rng x.a.g.length λ (i : Nat) => gD x.a.g i)
 (rng x.a.b.length λ (i : Nat) => gD x.a.b i) x.a.t)) = 0 /\ inT (GBt.mk (rng x.a.g.length λ (i : Nat) => gD x.a.g i) (rng x.a.b.length λ (i : Nat) => gD x.a.b i) x.a.t) = false) /\ (rchL x).a0 = 0 /\ (rchL x).a1 = 0 /\
 (rchL x).b0 = 0 /\ (rchL x).b1 = 0 /\ flowE x.a = 4) := by kernel_rfl
def V_ReachX (x : GBu) : Prop := fnVC Try.prog A_ReachX F_Reach (bodyOf F_Reach) (xGBu x) (heapOf []) (C_Reach.val x) [] [] []
theorem vc_ReachX (x : GBu) : (V_ReachX x) = (((rng x.a.g.length λ (i : Nat) => gD x.a.g i).length = x.a.g.length /\ (∀ (i : Nat), i < (rng x.a.g.length λ (i : Nat) => gD x.a.g i).length -> (gD (rng x.a.g.length λ (i
 : Nat) => gD x.a.g i) i).st = (gD x.a.g i).st /\ (gD (rng x.a.g.length λ (i : Nat) => gD x.a.g i) i).lo = (gD x.a.g i).lo /\ (gD (rng x.a.g.length λ (i : Nat) => gD x.a.g i) i).hi = (gD x.a.g i).hi) /\ (rng x.a.b.length
 λ (i : Nat) => gD x.a.b i).length = x.a.b.length /\ (∀ (i : Nat), i < (rng x.a.b.length λ (i : Nat) => gD x.a.b i).length -> gD (rng x.a.b.length λ (i : Nat) => gD x.a.b i) i = gD x.a.b i) /\ x.a.t = x.a.t /\ ((rng
 x.a.g.length λ (i : Nat) => gD x.a.g i).length < 4611686018427387904 /\ (rng x.a.b.length λ (i : Nat) => gD x.a.b i).length < 4611686018427387904) /\ openE (gbt (GBt.mk (rng x.a.g.length λ (i : Nat) => gD x.a.g i)
 (rng x.a.b.length λ (i : Nat) => gD x.a.b i) x.a.t)) ≠ 0) /\ (bif openE (gbt (GBt.mk (rng x.a.g.length λ (i : Nat) => gD x.a.g i) (rng x.a.b.length λ (i : Nat) => gD x.a.b i) x.a.t)) != 0 then (rchL x).a0 = 0 /\
 (rchL x).a1 = 0 /\ (rchL x).b0 = 0 /\ (rchL x).b1 = 0 /\ flowE x.a = openE (gbt (GBt.mk (rng x.a.g.length λ (i : Nat) => gD x.a.g i) (rng x.a.b.length λ (i : Nat) => gD x.a.b i) x.a.t)) else False) /\ True) := by
 kernel_rfl
theorem ok_Reach : SpecOk Try.prog n_Reach (C_Reach.spec dGBu) := Ctr.spec_ok (C := C_Reach) (λ (x : GBu) h => by
 have h : preT x.a := (show preT x.a /\ True from h).1
 by_cases hE : openE (gbt x.a) = 0
 ·cases hT : inT x.a with
  | true =>
   refine fnt (A := A_ReachG) (L := []) (keep := []) (ren := []) (fz := []) fn_Reach (by kernel_rfl) (gok_cons ok_stg (gok_cons ok_less (gok_cons ok_more (gok_cons (orS_ok ok_bestL ok_bestM) gok_nil)))) ?_
   show V_ReachG x; rw [vc_ReachG]; delta z_ReachG_0 z_ReachG_1 z_ReachG_2 z_ReachG_3 z_ReachG_4 z_ReachG_5 z_ReachG_6 z_ReachG_7 z_ReachG_8 z_ReachG_9 z_ReachG_10 z_ReachG_11 z_ReachG_12 z_ReachG_13 z_ReachG_14 z_ReachG_15 z_ReachG_16 z_ReachG_17 z_ReachG_18 z_ReachG_19 z_ReachG_20 z_ReachG_21 z_ReachG_22 z_ReachG_23 z_ReachG_24 z_ReachG_25 z_ReachG_26 z_ReachG_27 z_ReachG_28 z_ReachG_29 z_ReachG_30 z_ReachG_31 z_ReachG_32 z_ReachG_33 z_ReachG_34 z_ReachG_35 z_ReachG_36 z_ReachG_37 z_ReachG_38 z_ReachG_39 z_ReachG_40 z_ReachG_41 z_ReachG_42 z_ReachG_43; simp only [condP, eq_self, implies_true, and_self, true_and, and_true, true_implies, forall_const, decide_eq_true_eq, decide_eq_false_iff_not, Int.toNat_natCast, dSpan_eSpan, dInt_eInt, dGau_e, dPt_e, dLn_e, dRt_e, Nat.zero_add, Int.zero_sub, Nat.le_eq, Nat.succ_eq_add_one, Nat.add_one_le_iff, Bool.not_eq_true', Bool.not_eq_false', rng_length, dSpan_mk, rng_getD, bk_eta, upB_eta, upB_g, upB_b, bkT_eta, show GBt.mk x.a.g x.a.b x.a.t = x.a from rfl, show BkT.mk (newB (gbt x.a)) x.a.t = bkT x.a from rfl]
   have hi : 0 <= x.a.t /\ x.a.t <= 2000 := by
    unfold inT inM at hT; simpa using hT
   have hb : bkOk (gbt x.a).g (gbt x.a).b := open_ok hE
   have e6 : ¬(lB (bkT x.a)).length ≠ 0 -> flowE x.a = 6 := λ hc => by unfold flowE; rw [hE, hT, decide_eq_true (show (lB (bkT x.a)).length = 0 by omega)]; rfl
   have e0 : (lB (bkT x.a)).length ≠ 0 -> flowE x.a = 0 := λ hc => by unfold flowE; rw [hE, hT, decide_eq_false hc]; rfl
   refine ⟨⟨h, hE, hT⟩, λ hu => ⟨⟨hb, hi⟩, λ hc => ?_, λ hc => ?_⟩, λ hu => ⟨⟨hb, hi⟩, λ hc => ?_, λ hc => ?_⟩⟩
   ·have e2 : rchL x = default := by unfold rchL; rw [e6 hc]; rfl
    rw [e2]; exact ⟨rfl, rfl, rfl, rfl, e6 hc⟩
   ·have e2 : rchL x = bestM gtR x.a.t (lB (bkT x.a)) := by unfold rchL; rw [e0 hc, hu]; rfl
    rw [e2, decide_eq_false hc]; exact ⟨rfl, rfl, rfl, rfl, e0 hc⟩
   ·have e2 : rchL x = default := by unfold rchL; rw [e6 hc]; rfl
    rw [e2]; exact ⟨rfl, rfl, rfl, rfl, e6 hc⟩
   ·have e2 : rchL x = bestM ltR x.a.t (lB (bkT x.a)) := by unfold rchL; rw [e0 hc, hu]; rfl
    rw [e2, decide_eq_false hc]; exact ⟨rfl, rfl, rfl, rfl, e0 hc⟩
  | false =>
   refine fnt (A := A_ReachA) (L := []) (keep := []) (ren := []) (fz := []) fn_Reach (by kernel_rfl) (gok_cons ok_stgA (gok_cons ok_less (gok_cons ok_more (gok_cons (orS_ok ok_bestL ok_bestM) gok_nil)))) ?_
   show V_ReachA x; rw [vc_ReachA]; simp only [condP, eq_self, implies_true, and_self, true_and, and_true, true_implies, forall_const, decide_eq_true_eq, decide_eq_false_iff_not, Int.toNat_natCast, dSpan_eSpan, dInt_eInt, dGau_e, dPt_e, dLn_e, dRt_e, Nat.zero_add, Int.zero_sub, Nat.le_eq, Nat.succ_eq_add_one, Nat.add_one_le_iff, Bool.not_eq_true', Bool.not_eq_false', rng_length, dSpan_mk, rng_getD, show GBt.mk x.a.g x.a.b x.a.t = x.a from rfl]
   have e : flowE x.a = 4 := by unfold flowE; rw [hE, hT]; rfl
   have e2 : rchL x = default := by unfold rchL; rw [e]; rfl
   rw [e2]; exact ⟨⟨h, hE, hT⟩, rfl, rfl, rfl, rfl, e⟩
 ·refine fnt (A := A_ReachX) (L := []) (keep := []) (ren := []) (fz := []) fn_Reach (by kernel_rfl) (gok_cons ok_stgX (gok_cons ok_less (gok_cons ok_more (gok_cons (orS_ok ok_bestL ok_bestM) gok_nil)))) ?_
  show V_ReachX x; rw [vc_ReachX]; simp only [condP, eq_self, implies_true, and_self, true_and, and_true, true_implies, forall_const, decide_eq_true_eq, decide_eq_false_iff_not, Int.toNat_natCast, dSpan_eSpan, dInt_eInt, dGau_e, dPt_e, dLn_e, dRt_e, Nat.zero_add, Int.zero_sub, Nat.le_eq, Nat.succ_eq_add_one, Nat.add_one_le_iff, Bool.not_eq_true', Bool.not_eq_false', rng_length, dSpan_mk, rng_getD, show GBt.mk x.a.g x.a.b x.a.t = x.a from rfl]
  have e : flowE x.a = openE (gbt x.a) := by unfold flowE; rw [show (openE (gbt x.a) == 0) = false by simpa using hE]; rfl
  have e2 : rchL x = default := by unfold rchL; rw [e, show (openE (gbt x.a) == 0) = false by simpa using hE]; rfl
  rw [e2]; exact ⟨⟨h, hE⟩, λ _ => ⟨rfl, rfl, rfl, rfl, e⟩, λ hc => hE (by simpa using hc)⟩) _
end Go.Bal
