/- Package rating: Dry. -/
import Derived.Test.YtoihhodbkimedaaRatO
set_option linter.unusedVariables false
set_option linter.unusedSimpArgs false
namespace Go.Bal
open Go Go.Sym Go.Proofs
def dryM (a : GB) : Span × Int := bif openE a == 0 then (bif decide ((lnK a 0).length = 0) then (default, 6) else (⟨upMO dr2 ⟨newB a, 0⟩, upMO dr3 ⟨newB a, 0⟩⟩, 0)) else (default, openE a)
def C_Dry : Ctr := { α := GB, xs := xGB, L := λ _ => [], val := λ x => .tup [.d (eSpan (dryM x).1), .int (dryM x).2], keep := λ _ => [], pre := λ x => [preB x /\ True] }
def G_dy (c : Sym.Spec) : List (FuncId × Sym.Spec) := [(n_opened, c), (n_lines, C_lns.spec dBkS), (n_upTo, orS ((C_upO dr2 n_Dry2).spec (dUpO n_Dry2)) ((C_upO dr3 n_Dry3).spec (dUpO n_Dry3)))]
def A_DyG : Ann := ann 31 (G_dy (C_open.spec dGB))
def A_DyX : Ann := { ann 31 (G_dy (C_openX.spec dGB)) with cut := λ id => if id = 4 then some [] else none }
def V_DyG (x : GB) : Prop := fnVC Try.prog A_DyG F_Dry (bodyOf F_Dry) (xGB x) (heapOf []) (C_Dry.val x) [] [] []
abbrev z_DyG_0 (x : GB) : List Gau := rng x.g.length λ (i : Nat) => gD x.g i
abbrev z_DyG_1 (x : GB) : Nat := (z_DyG_0 x).length
abbrev z_DyG_2 (x : GB) (i : Nat) : Gau := gD (z_DyG_0 x) i
abbrev z_DyG_3 (x : GB) : List Int := rng x.b.length λ (i : Nat) => gD x.b i
abbrev z_DyG_4 (x : GB) : Nat := (z_DyG_3 x).length
abbrev z_DyG_5 (x : GB) : GB := GB.mk (z_DyG_0 x) (z_DyG_3 x)
abbrev z_DyG_6 : Prop := (0 : Int) = Int.ofNat (0 : Nat)
abbrev z_DyG_7 (x : GB) : Bk := newB (z_DyG_5 x)
abbrev z_DyG_8 (x : GB) : List Gau := (z_DyG_7 x).g
abbrev z_DyG_9 (x : GB) : Nat := (z_DyG_8 x).length
abbrev z_DyG_10 (x : GB) (i : Nat) : Gau := gD (z_DyG_8 x) i
abbrev z_DyG_11 (x : GB) : List Gau := rng (z_DyG_9 x) λ (i : Nat) => z_DyG_10 x i
abbrev z_DyG_12 (x : GB) : Nat := (z_DyG_11 x).length
abbrev z_DyG_13 (x : GB) : Prop := z_DyG_12 x = z_DyG_9 x
abbrev z_DyG_14 (x : GB) (i : Nat) : Gau := gD (z_DyG_11 x) i
abbrev z_DyG_15 (x : GB) (i : Nat) : Int := (z_DyG_14 x i).st
abbrev z_DyG_16 (x : GB) (i : Nat) : Int := (z_DyG_10 x i).st
abbrev z_DyG_17 (x : GB) (i : Nat) : Int := (z_DyG_14 x i).lo
abbrev z_DyG_18 (x : GB) (i : Nat) : Int := (z_DyG_10 x i).lo
abbrev z_DyG_19 (x : GB) (i : Nat) : Int := (z_DyG_14 x i).hi
abbrev z_DyG_20 (x : GB) (i : Nat) : Int := (z_DyG_10 x i).hi
abbrev z_DyG_21 (x : GB) : Prop := ∀ (i : Nat), i < z_DyG_12 x -> z_DyG_15 x i = z_DyG_16 x i /\ z_DyG_17 x i = z_DyG_18 x i /\ z_DyG_19 x i = z_DyG_20 x i
abbrev z_DyG_22 (x : GB) : List Int := (z_DyG_7 x).b
abbrev z_DyG_23 (x : GB) : Nat := (z_DyG_22 x).length
abbrev z_DyG_24 (x : GB) (i : Nat) : Int := gD (z_DyG_22 x) i
abbrev z_DyG_25 (x : GB) : List Int := rng (z_DyG_23 x) λ (i : Nat) => z_DyG_24 x i
abbrev z_DyG_26 (x : GB) : Nat := (z_DyG_25 x).length
abbrev z_DyG_27 (x : GB) : Prop := z_DyG_26 x = z_DyG_23 x
abbrev z_DyG_28 (x : GB) (i : Nat) : Int := gD (z_DyG_25 x) i
abbrev z_DyG_29 (x : GB) : Prop := ∀ (i : Nat), i < z_DyG_26 x -> z_DyG_28 x i = z_DyG_24 x i
abbrev z_DyG_30 : Value := Value.slice none (0 : Nat) (0 : Nat)
abbrev z_DyG_31 : Prop := z_DyG_30 = z_DyG_30
abbrev z_DyG_32 (x : GB) (n : Int) : Int := (z_DyG_7 x).st n
abbrev z_DyG_33 (x : GB) : Bk := Bk.mk (z_DyG_11 x) (z_DyG_25 x) (z_DyG_7 x).has (z_DyG_7 x).st
abbrev z_DyG_34 (x : GB) (n : Int) : List Ln := fdM (z_DyG_33 x) n
abbrev z_DyG_35 (x : GB) (n : Int) : Nat := (z_DyG_34 x n).length
abbrev z_DyG_36 (x : GB) (n : Int) : List Ln := fdM (z_DyG_7 x) n
abbrev z_DyG_37 (x : GB) (n : Int) (i : Nat) : Ln := gD (z_DyG_34 x n) i
abbrev z_DyG_38 (x : GB) (n : Int) (i : Nat) : Ln := gD (z_DyG_36 x n) i
abbrev z_DyG_39 (x : GB) : Bk := upB (z_DyG_33 x) (0 : Int)
abbrev z_DyG_40 (x : GB) : List Gau := (z_DyG_39 x).g
abbrev z_DyG_41 (i : Nat) (x : GB) : Prop := i < z_DyG_9 x
abbrev z_DyG_42 (x : GB) (i : Nat) : Gau := gD (z_DyG_40 x) i
abbrev z_DyG_43 (x : GB) : List Int := (z_DyG_39 x).b
abbrev z_DyG_44 (i : Nat) (x : GB) : Prop := i < z_DyG_23 x
abbrev z_DyG_45 (x : GB) : Prop := z_DyG_12 x <= (24 : Nat) /\ (∀ (x_1 : Gau), List.Mem x_1 (z_DyG_11 x) -> (0 : Int) <= x_1.st /\ x_1.st <= (2000 : Int) /\ (0 : Int) <= x_1.lo /\ x_1.lo <= x_1.hi /\ x_1.hi <= (200000 : Int)) /\
 z_DyG_26 x <= (24 : Nat) /\ List.Pairwise (λ (x1 x2 : Int) => x1 < x2) (z_DyG_25 x) /\ ∀ (x_1 : Int), List.Mem x_1 (z_DyG_25 x) -> (1 : Int) <= x_1 /\ x_1 <= (2000 : Int)
abbrev z_DyG_46 : Prop := (0 : Int) <= (0 : Int)
abbrev z_DyG_47 (x : GB) (n : Int) : Bool := (z_DyG_39 x).has n
abbrev z_DyG_48 (x : GB) : Prop := ∀ (n : Int), z_DyG_47 x n = z_DyG_47 x n
abbrev z_DyG_49 (x : GB) (n : Int) : Int := (z_DyG_39 x).st n
abbrev z_DyG_50 (x : GB) : Prop := ∀ (n : Int), z_DyG_49 x n = z_DyG_49 x n
abbrev z_DyG_51 (x : GB) : Bk := Bk.mk (z_DyG_11 x) (z_DyG_25 x) (z_DyG_39 x).has (z_DyG_39 x).st
abbrev z_DyG_52 (x : GB) (n : Int) : List Ln := fdM (z_DyG_51 x) n
abbrev z_DyG_53 (x : GB) (n : Int) : Nat := (z_DyG_52 x n).length
abbrev z_DyG_54 (x : GB) (n : Int) : List Ln := fdM (z_DyG_39 x) n
abbrev z_DyG_55 (x : GB) (n : Int) : Nat := (z_DyG_54 x n).length
abbrev z_DyG_56 (x : GB) (n : Int) (i : Nat) : Ln := gD (z_DyG_52 x n) i
abbrev z_DyG_57 (x : GB) (n : Int) (i : Nat) : Int := (z_DyG_56 x n i).a0
abbrev z_DyG_58 (x : GB) (n : Int) (i : Nat) : Ln := gD (z_DyG_54 x n) i
abbrev z_DyG_59 (x : GB) (n : Int) (i : Nat) : Int := (z_DyG_58 x n i).a0
abbrev z_DyG_60 (x : GB) (n : Int) (i : Nat) : Int := (z_DyG_56 x n i).a1
abbrev z_DyG_61 (x : GB) (n : Int) (i : Nat) : Int := (z_DyG_58 x n i).a1
abbrev z_DyG_62 (x : GB) (n : Int) (i : Nat) : Int := (z_DyG_56 x n i).b0
abbrev z_DyG_63 (x : GB) (n : Int) (i : Nat) : Int := (z_DyG_58 x n i).b0
abbrev z_DyG_64 (x : GB) (n : Int) (i : Nat) : Int := (z_DyG_56 x n i).b1
abbrev z_DyG_65 (x : GB) (n : Int) (i : Nat) : Int := (z_DyG_58 x n i).b1
abbrev z_DyG_66 (x : GB) : Prop := ∀ (n : Int), z_DyG_53 x n = z_DyG_55 x n /\ ∀ (i : Nat), i < z_DyG_53 x n -> z_DyG_57 x n i = z_DyG_59 x n i /\ z_DyG_60 x n i = z_DyG_61 x n i /\ z_DyG_62 x n i = z_DyG_63 x n i /\ z_DyG_64
 x n i = z_DyG_65 x n i
abbrev z_DyG_67 (x : GB) : Prop := z_DyG_9 x = z_DyG_12 x
abbrev z_DyG_68 (x : GB) : Prop := ∀ (i : Nat), z_DyG_41 i x -> z_DyG_16 x i = z_DyG_15 x i /\ z_DyG_18 x i = z_DyG_17 x i /\ z_DyG_20 x i = z_DyG_19 x i
abbrev z_DyG_69 (x : GB) : Prop := z_DyG_23 x = z_DyG_26 x
abbrev z_DyG_70 (x : GB) : Prop := ∀ (i : Nat), z_DyG_44 i x -> z_DyG_24 x i = z_DyG_28 x i
abbrev z_DyG_71 (x : GB) : Prop := ∀ (n : Int), z_DyG_55 x n = z_DyG_53 x n /\ ∀ (i : Nat), i < z_DyG_55 x n -> z_DyG_59 x n i = z_DyG_57 x n i /\ z_DyG_61 x n i = z_DyG_60 x n i /\ z_DyG_63 x n i = z_DyG_62 x n i /\ z_DyG_65
 x n i = z_DyG_64 x n i
abbrev z_DyG_72 (x : GB) : Prop := z_DyG_45 x /\ z_DyG_46 /\ (0 : Int) <= (↑(z_DyG_26 x) : Int) /\ true = true
abbrev z_DyG_73 (x : GB) : BkI := BkI.mk (z_DyG_51 x) (0 : Int)
theorem vc_DyG (x : GB) : (V_DyG x) = ((z_DyG_1 x = x.g.length /\ (∀ (i : Nat), i < z_DyG_1 x -> (z_DyG_2 x i).st = (gD x.g i).st /\ (z_DyG_2 x i).lo = (gD x.g i).lo /\ (z_DyG_2 x i).hi = (gD x.g i).hi) /\ z_DyG_4 x =
 x.b.length /\ (∀ (i : Nat), i < z_DyG_4 x -> gD (z_DyG_3 x) i = gD x.b i) /\ z_DyG_1 x < (4611686018427387904 : Nat) /\ z_DyG_4 x < (4611686018427387904 : Nat) /\ openE (z_DyG_5 x) = (0 : Int)) /\ (z_DyG_6 /\ z_DyG_6 /\ z_DyG_13
 x /\ z_DyG_21 x /\ z_DyG_27 x /\ z_DyG_29 x /\ z_DyG_31 /\ (∀ (n : Int), false = false) /\ (∀ (n : Int), z_DyG_32 x n = z_DyG_32 x n) /\ (∀ (n : Int), z_DyG_35 x n = (z_DyG_36 x n).length /\ ∀ (i : Nat), i < z_DyG_35 x n ->
 (z_DyG_37 x n i).a0 = (z_DyG_38 x n i).a0 /\ (z_DyG_37 x n i).a1 = (z_DyG_38 x n i).a1 /\ (z_DyG_37 x n i).b0 = (z_DyG_38 x n i).b0 /\ (z_DyG_37 x n i).b1 = (z_DyG_38 x n i).b1) /\ z_DyG_9 x = (z_DyG_40 x).length /\ (∀ (i :
 Nat), z_DyG_41 i x -> z_DyG_16 x i = (z_DyG_42 x i).st /\ z_DyG_18 x i = (z_DyG_42 x i).lo /\ z_DyG_20 x i = (z_DyG_42 x i).hi) /\ z_DyG_23 x = (z_DyG_43 x).length /\ (∀ (i : Nat), z_DyG_44 i x -> z_DyG_24 x i = gD (z_DyG_43
 x) i) /\ z_DyG_45 x /\ z_DyG_46 /\ (0 : Int) <= (2000 : Int)) /\ bif (↑(lnsM (sB (BkS.mk (z_DyG_33 x) (0 : Int) (0 : Int))) (0 : Int)).length : Int) == (0 : Int) then (dryM x).fst.lo = (0 : Int) /\ (dryM x).fst.hi = (0 : Int)
 /\ (dryM x).snd = (6 : Int) else (z_DyG_6 /\ z_DyG_13 x /\ z_DyG_21 x /\ z_DyG_27 x /\ z_DyG_29 x /\ z_DyG_31 /\ z_DyG_48 x /\ z_DyG_50 x /\ z_DyG_66 x /\ z_DyG_67 x /\ z_DyG_68 x /\ z_DyG_69 x /\ z_DyG_70 x /\ z_DyG_31 /\ z_DyG_48 x /\
 z_DyG_50 x /\ z_DyG_71 x /\ z_DyG_72 x /\ z_DyG_6 /\ z_DyG_13 x /\ z_DyG_21 x /\ z_DyG_27 x /\ z_DyG_29 x /\ z_DyG_31 /\ z_DyG_48 x /\ z_DyG_50 x /\ z_DyG_66 x /\ z_DyG_67 x /\ z_DyG_68 x /\ z_DyG_69 x /\ z_DyG_70 x /\ z_DyG_31 /\
 z_DyG_48 x /\ z_DyG_50 x /\ z_DyG_71 x /\ z_DyG_72 x) /\ (dryM x).fst.lo = upMO dr2 (z_DyG_73 x) /\ (dryM x).fst.hi = upMO dr3 (z_DyG_73 x) /\ (dryM x).snd = (0 : Int)) := by kernel_rfl
def V_DyX (x : GB) : Prop := fnVC Try.prog A_DyX F_Dry (bodyOf F_Dry) (xGB x) (heapOf []) (C_Dry.val x) [] [] []
theorem vc_DyX (x : GB) : (V_DyX x) = (((rng x.g.length λ (i : Nat) => gD x.g i).length = x.g.length /\ (∀ (i : Nat), i < (rng x.g.length λ (i : Nat) => gD x.g i).length -> (gD (rng x.g.length λ (i : Nat) => gD x.g
 i) i).st = (gD x.g i).st /\ (gD (rng x.g.length λ (i : Nat) => gD x.g i) i).lo = (gD x.g i).lo /\ (gD (rng x.g.length λ (i : Nat) => gD x.g i) i).hi = (gD x.g i).hi) /\ (rng x.b.length λ (i : Nat) => gD x.b i).length
 = x.b.length /\ (∀ (i : Nat), i < (rng x.b.length λ (i : Nat) => gD x.b i).length -> gD (rng x.b.length λ (i : Nat) => gD x.b i) i = gD x.b i) /\ (rng x.g.length λ (i : Nat) => gD x.g i).length < 4611686018427387904 /\
 (rng x.b.length λ (i : Nat) => gD x.b i).length < 4611686018427387904 /\ openE (GB.mk (rng x.g.length λ (i : Nat) => gD x.g i) (rng x.b.length λ (i : Nat) => gD x.b i)) ≠ 0) /\ (bif openE (GB.mk (rng x.g.length fun
 (i : Nat) => gD x.g i) (rng x.b.length λ (i : Nat) => gD x.b i)) != 0 then (dryM x).fst.lo = 0 /\ (dryM x).fst.hi = 0 /\ (dryM x).snd = openE (GB.mk (rng x.g.length λ (i : Nat) => gD x.g i) (rng x.b.length λ (i :
 Nat) => gD x.b i)) else False) /\ True) := by kernel_rfl
theorem p_DyG (x : GB) (h : preB x) (hE : openE x = 0) : V_DyG x := by
 rw [vc_DyG]; delta z_DyG_0 z_DyG_1 z_DyG_2 z_DyG_3 z_DyG_4 z_DyG_5 z_DyG_6 z_DyG_7 z_DyG_8 z_DyG_9 z_DyG_10 z_DyG_11 z_DyG_12 z_DyG_13 z_DyG_14 z_DyG_15 z_DyG_16 z_DyG_17 z_DyG_18 z_DyG_19 z_DyG_20 z_DyG_21 z_DyG_22 z_DyG_23 z_DyG_24 z_DyG_25 z_DyG_26 z_DyG_27 z_DyG_28 z_DyG_29 z_DyG_30 z_DyG_31 z_DyG_32 z_DyG_33 z_DyG_34 z_DyG_35 z_DyG_36 z_DyG_37 z_DyG_38 z_DyG_39 z_DyG_40 z_DyG_41 z_DyG_42 z_DyG_43 z_DyG_44 z_DyG_45 z_DyG_46 z_DyG_47 z_DyG_48 z_DyG_49 z_DyG_50 z_DyG_51 z_DyG_52 z_DyG_53 z_DyG_54 z_DyG_55 z_DyG_56 z_DyG_57 z_DyG_58 z_DyG_59 z_DyG_60 z_DyG_61 z_DyG_62 z_DyG_63 z_DyG_64 z_DyG_65 z_DyG_66 z_DyG_67 z_DyG_68 z_DyG_69 z_DyG_70 z_DyG_71 z_DyG_72 z_DyG_73; simp only [condP, eq_self, implies_true, and_self, true_and, and_true, true_implies, forall_const, decide_eq_true_eq, decide_eq_false_iff_not, Int.toNat_natCast, dSpan_eSpan, dInt_eInt, dGau_e, dPt_e, dLn_e, dRt_e, Nat.zero_add, Int.zero_sub, Nat.le_eq, Nat.succ_eq_add_one, Nat.add_one_le_iff, Bool.not_eq_true', Bool.not_eq_false', rng_length, dSpan_mk, rng_getD, bk_eta, upB_eta, upB_g, upB_b, bkT_eta, if_true]
 have hb : bkOk x.g x.b := open_ok hE
 have e0 : openE x == 0 := by rw [hE]; rfl
 refine ⟨⟨h.1, h.2, hE⟩, ⟨rfl, rfl, hb, by omega, by omega⟩, λ hc => ?_, λ hc => ⟨⟨rfl, ⟨hb, by omega, by omega⟩, rfl, hb, by omega, by omega⟩, ?_⟩⟩
 ·have hc : ((lnK x 0).length : Int) == 0 := hc
  have e : dryM x = (default, 6) := by
   unfold dryM; rw [e0, decide_eq_true (show (lnK x 0).length = 0 by have := eq_of_beq hc; omega)]; rfl
  rw [e]; exact ⟨rfl, rfl, rfl⟩
 ·have hc : (((lnK x 0).length : Int) == 0) = false := hc
  have e : dryM x = (⟨upMO dr2 ⟨newB x, 0⟩, upMO dr3 ⟨newB x, 0⟩⟩, 0) := by
   unfold dryM; rw [e0, decide_eq_false (show ¬(lnK x 0).length = 0 by intro h0; rw [h0] at hc; cases hc)]; rfl
  rw [e]; exact ⟨rfl, rfl, rfl⟩
theorem p_DyX (x : GB) (h : preB x) (hE : openE x ≠ 0) : V_DyX x := by
 rw [vc_DyX]; simp only [condP, eq_self, implies_true, and_self, true_and, and_true, true_implies, forall_const, decide_eq_true_eq, decide_eq_false_iff_not, Int.toNat_natCast, dSpan_eSpan, dInt_eInt, dGau_e, dPt_e, dLn_e, dRt_e, Nat.zero_add, Int.zero_sub, Nat.le_eq, Nat.succ_eq_add_one, Nat.add_one_le_iff, Bool.not_eq_true', Bool.not_eq_false', rng_length, dSpan_mk, rng_getD, bk_eta, upB_eta, upB_g, upB_b, bkT_eta, if_true]
 have hE : openE ⟨x.g, x.b⟩ ≠ 0 := hE
 have e0 : (openE ⟨x.g, x.b⟩ == 0) = false := by simpa using hE
 refine ⟨⟨h.1, h.2, hE⟩, λ _ => ?_, λ hc => ?_⟩
 ·have e : dryM x = (default, openE x) := by unfold dryM; rw [show (openE x == 0) = false from e0]; rfl
  rw [e]; exact ⟨rfl, rfl, rfl⟩
 ·exact hE (by simpa using hc)
theorem ok_Dry : SpecOk Try.prog n_Dry (C_Dry.spec dGB) := Ctr.spec_ok (C := C_Dry) (λ (x : GB) h => by
 have h : preB x := (show preB x /\ True from h).1
 by_cases hE : openE x = 0
 ·exact fnt (A := A_DyG) (L := []) (keep := []) (ren := []) (fz := []) fn_Dry (by kernel_rfl) (gok_cons ok_open (gok_cons ok_lns (gok_cons (orS_ok ok_upO2 ok_upO3) gok_nil))) (p_DyG x h hE)
 ·exact fnt (A := A_DyX) (L := []) (keep := []) (ren := []) (fz := []) fn_Dry (by kernel_rfl) (gok_cons ok_openX (gok_cons ok_lns (gok_cons (orS_ok ok_upO2 ok_upO3) gok_nil))) (p_DyX x h hE)) _
end Go.Bal
