/- Package rating: the last stage of a part for which something is so. -/
import Derived.Test.YtoihhodbkimedaaRatL
set_option linter.unusedVariables false
set_option linter.unusedSimpArgs false
namespace Go.Bal
open Go Go.Sym Go.Proofs
def V_up2 (a : UpI) : Prop := fnVC Try.prog (A_up st2 n_Stages2 ((C_bnF st2).spec dBnF) a) F_upTo (bodyOf F_upTo) ((C_up st2 n_Stages2).xs a) (heapOf ((C_up st2 n_Stages2).L a)) ((C_up st2 n_Stages2).val a) ((C_up st2 n_Stages2).keep a) [] []
abbrev z_up2_0 (a : UpI) : List Gau := rng a.w.g.length λ (i : Nat) => gD a.w.g i
abbrev z_up2_1 (a : UpI) : Nat := (z_up2_0 a).length
abbrev z_up2_2 (a : UpI) : Prop := z_up2_1 a = a.w.g.length
abbrev z_up2_3 (a : UpI) (i : Nat) : Gau := gD (z_up2_0 a) i
abbrev z_up2_4 (a : UpI) (i : Nat) : Int := (z_up2_3 a i).st
abbrev z_up2_5 (a : UpI) (i : Nat) : Int := (z_up2_3 a i).lo
abbrev z_up2_6 (a : UpI) (i : Nat) : Int := (z_up2_3 a i).hi
abbrev z_up2_7 (a : UpI) : Prop := ∀ (i : Nat), i < z_up2_1 a -> z_up2_4 a i = (gD a.w.g i).st /\ z_up2_5 a i = (gD a.w.g i).lo /\ z_up2_6 a i = (gD a.w.g i).hi
abbrev z_up2_8 (a : UpI) : List Int := rng a.w.b.length λ (i : Nat) => gD a.w.b i
abbrev z_up2_9 (a : UpI) : Nat := (z_up2_8 a).length
abbrev z_up2_10 (a : UpI) : Prop := z_up2_9 a = a.w.b.length
abbrev z_up2_11 (a : UpI) (i : Nat) : Int := gD (z_up2_8 a) i
abbrev z_up2_12 (a : UpI) : Prop := ∀ (i : Nat), i < z_up2_9 a -> z_up2_11 a i = gD a.w.b i
abbrev z_up2_13 : Value := Value.slice none (0 : Nat) (0 : Nat)
abbrev z_up2_14 : Prop := z_up2_13 = z_up2_13
abbrev z_up2_15 (a : UpI) : Prop := ∀ (n : Int), a.w.has n = a.w.has n
abbrev z_up2_16 (a : UpI) : Prop := ∀ (n : Int), a.w.st n = a.w.st n
abbrev z_up2_17 (a : UpI) : Bk := Bk.mk (z_up2_0 a) (z_up2_8 a) a.w.has a.w.st
abbrev z_up2_18 (a : UpI) (n : Int) : List Ln := fdM (z_up2_17 a) n
abbrev z_up2_19 (a : UpI) (n : Int) : Nat := (z_up2_18 a n).length
abbrev z_up2_20 (a : UpI) (n : Int) (i : Nat) : Ln := gD (z_up2_18 a n) i
abbrev z_up2_21 (a : UpI) (n : Int) (i : Nat) : Int := (z_up2_20 a n i).a0
abbrev z_up2_22 (a : UpI) (n : Int) (i : Nat) : Int := (z_up2_20 a n i).a1
abbrev z_up2_23 (a : UpI) (n : Int) (i : Nat) : Int := (z_up2_20 a n i).b0
abbrev z_up2_24 (a : UpI) (n : Int) (i : Nat) : Int := (z_up2_20 a n i).b1
abbrev z_up2_25 (a : UpI) : Prop := ∀ (n : Int), z_up2_19 a n = (fdM a.w n).length /\ ∀ (i : Nat), i < z_up2_19 a n -> z_up2_21 a n i = (gD (fdM a.w n) i).a0 /\ z_up2_22 a n i = (gD (fdM a.w n) i).a1 /\ z_up2_23 a n i = (gD
 (fdM a.w n) i).b0 /\ z_up2_24 a n i = (gD (fdM a.w n) i).b1
abbrev z_up2_26 (i : Nat) (a : UpI) (n : Int) : Prop := i < (fdM a.w n).length
abbrev z_up2_27 (a : UpI) : Prop := z_up2_1 a <= (24 : Nat) /\ (∀ (x : Gau), List.Mem x (z_up2_0 a) -> (0 : Int) <= x.st /\ x.st <= (2000 : Int) /\ (0 : Int) <= x.lo /\ x.lo <= x.hi /\ x.hi <= (200000 : Int)) /\ z_up2_9 a <= (24 :
 Nat) /\ List.Pairwise (λ (x1 x2 : Int) => x1 < x2) (z_up2_8 a) /\ ∀ (x : Int), List.Mem x (z_up2_8 a) -> (1 : Int) <= x /\ x <= (2000 : Int)
abbrev z_up2_28 (a : UpI) : Span := spanM (z_up2_17 a) a.k
abbrev z_up2_29 (a : UpI) : Prop := a.w.g.length = a.w.g.length
abbrev z_up2_30 (a : UpI) : Prop := ∀ (i : Nat), i < a.w.g.length -> (gD a.w.g i).st = (gD a.w.g i).st /\ (gD a.w.g i).lo = (gD a.w.g i).lo /\ (gD a.w.g i).hi = (gD a.w.g i).hi
abbrev z_up2_31 (a : UpI) : Prop := a.w.b.length = a.w.b.length
abbrev z_up2_32 (a : UpI) : Prop := ∀ (i : Nat), i < a.w.b.length -> gD a.w.b i = gD a.w.b i
abbrev z_up2_33 (a : UpI) : Prop := a.f.n = a.f.n /\ a.f.d = a.f.d
abbrev z_up2_34 (a : UpI) : Prop := z_up2_29 a /\ z_up2_30 a /\ z_up2_31 a /\ z_up2_32 a /\ z_up2_14 /\ z_up2_15 a /\ z_up2_16 a /\ (∀ (n : Int), (fdM a.w n).length = (fdM a.w n).length /\ ∀ (i : Nat), z_up2_26 i a n -> (gD (fdM
 a.w n) i).a0 = (gD (fdM a.w n) i).a0 /\ (gD (fdM a.w n) i).a1 = (gD (fdM a.w n) i).a1 /\ (gD (fdM a.w n) i).b0 = (gD (fdM a.w n) i).b0 /\ (gD (fdM a.w n) i).b1 = (gD (fdM a.w n) i).b1) /\ z_up2_33 a
abbrev z_up2_35 (a : LH) : Int := a.hi - a.lo
abbrev z_up2_36 (a : LH) : Nat := (z_up2_35 a).toNat
abbrev z_up2_37 (a : UpI) (a1 : LH) : Prop := (spanM a.w a.k).lo - (1 : Int) <= a1.lo /\ a1.lo <= a1.hi /\ a1.hi <= (spanM a.w a.k).hi /\ ∀ (m : Nat), z_up2_36 a1 <= m -> upM st2 a = upL (upP st2 a) m a1.lo a1.hi
abbrev z_up2_38 (a : LH) : Int := IntKind.i64.wrap (a.lo + IntKind.i64.wrap ((IntKind.i64.wrap (IntKind.i64.wrap (z_up2_35 a) + (1 : Int))).tdiv (2 : Int)))
abbrev z_up2_39 (a : UpI) (a1 : LH) : BkT := BkT.mk (z_up2_17 a) (z_up2_38 a1)
abbrev z_up2_40 (a : UpI) (a1 : LH) : Bk := upB (z_up2_17 a) (kB (z_up2_39 a a1))
abbrev z_up2_41 (a : UpI) (a1 : LH) : List Gau := (z_up2_40 a a1).g
abbrev z_up2_42 (a : UpI) (a1 : LH) (i : Nat) : Gau := gD (z_up2_41 a a1) i
abbrev z_up2_43 (a : UpI) (a1 : LH) : List Int := (z_up2_40 a a1).b
abbrev z_up2_44 (a : UpI) (a1 : LH) : Bnd := bndM (lB (z_up2_39 a a1)) (z_up2_38 a1)
abbrev z_up2_45 (a : UpI) (a1 : LH) : Rt := (z_up2_44 a a1).lo
abbrev z_up2_46 (a : UpI) (a1 : LH) : Int := (z_up2_45 a a1).n
abbrev z_up2_47 (a : UpI) (a1 : LH) : Int := (z_up2_45 a a1).d
abbrev z_up2_48 (a : UpI) (a1 : LH) : Rt := (z_up2_44 a a1).hi
abbrev z_up2_49 (a : UpI) (a1 : LH) : Int := (z_up2_48 a a1).n
abbrev z_up2_50 (a : UpI) (a1 : LH) : Int := (z_up2_48 a a1).d
abbrev z_up2_51 (a : UpI) (a1 : LH) : Bnd := dBnd (DVal.agg [eInt (z_up2_46 a a1), eInt (z_up2_47 a a1), eInt (z_up2_49 a a1), eInt (z_up2_50 a a1)])
abbrev z_up2_52 (a : UpI) (a1 : LH) : Rt := (z_up2_51 a a1).lo
abbrev z_up2_53 (a : UpI) (a1 : LH) : Rt := (z_up2_51 a a1).hi
abbrev z_up2_54 (a : UpI) (a1 : LH) (n : Int) : List Ln := fdM (z_up2_40 a a1) n
abbrev z_up2_55 (a : UpI) (a1 : LH) (n : Int) (i : Nat) : Ln := gD (z_up2_54 a a1 n) i
abbrev z_up2_56 (a : UpI) (a1 : LH) : Prop := z_up2_29 a /\ z_up2_30 a /\ z_up2_31 a /\ z_up2_32 a /\ z_up2_14 /\ (∀ (n : Int), a.w.has n = (z_up2_40 a a1).has n) /\ (∀ (n : Int), a.w.st n = (z_up2_40 a a1).st n) /\ (∀ (n :
 Int), (fdM a.w n).length = (z_up2_54 a a1 n).length /\ ∀ (i : Nat), z_up2_26 i a n -> (gD (fdM a.w n) i).a0 = (z_up2_55 a a1 n i).a0 /\ (gD (fdM a.w n) i).a1 = (z_up2_55 a a1 n i).a1 /\ (gD (fdM a.w n) i).b0 = (z_up2_55 a a1
 n i).b0 /\ (gD (fdM a.w n) i).b1 = (z_up2_55 a a1 n i).b1) /\ z_up2_33 a
abbrev z_up2_57 (a : UpI) (a1 : LH) (a2 : LH) : Prop := z_up2_37 a a1 /\ z_up2_36 a1 < z_up2_36 a2
theorem vc_up2 (a : UpI) : (V_up2 a) = ((a.k = a.k /\ z_up2_2 a /\ z_up2_7 a /\ z_up2_10 a /\ z_up2_12 a /\ z_up2_14 /\ z_up2_15 a /\ z_up2_16 a /\ z_up2_25 a /\ a.w.g.length = z_up2_1 a /\ (∀ (i : Nat), i < a.w.g.length -> (gD
 a.w.g i).st = z_up2_4 a i /\ (gD a.w.g i).lo = z_up2_5 a i /\ (gD a.w.g i).hi = z_up2_6 a i) /\ a.w.b.length = z_up2_9 a /\ (∀ (i : Nat), i < a.w.b.length -> gD a.w.b i = z_up2_11 a i) /\ z_up2_14 /\ z_up2_15 a /\ z_up2_16 a /\
 (∀ (n : Int), (fdM a.w n).length = z_up2_19 a n /\ ∀ (i : Nat), z_up2_26 i a n -> (gD (fdM a.w n) i).a0 = z_up2_21 a n i /\ (gD (fdM a.w n) i).a1 = z_up2_22 a n i /\ (gD (fdM a.w n) i).b0 = z_up2_23 a n i /\ (gD (fdM a.w n)
 i).b1 = z_up2_24 a n i) /\ z_up2_27 a /\ (0 : Int) <= a.k /\ a.k <= (↑(z_up2_9 a) : Int)) /\ (∃ (a_1 : LH), (a_1.lo = IntKind.i64.wrap ((z_up2_28 a).lo - (1 : Int)) /\ a_1.hi = (z_up2_28 a).hi /\ z_up2_34 a) /\ z_up2_37 a a_1) /\
 ∀ (a_1 : LH), z_up2_37 a a_1 -> bif decide (a_1.lo < a_1.hi) then (Int.ofNat (2 : Nat) = Int.ofNat (0 : Nat) -> False) /\ (z_up2_38 a_1 = z_up2_38 a_1 /\ z_up2_2 a /\ z_up2_7 a /\ z_up2_10 a /\ z_up2_12 a /\ z_up2_14 /\ z_up2_15
 a /\ z_up2_16 a /\ z_up2_25 a /\ a.w.g.length = (z_up2_41 a a_1).length /\ (∀ (i : Nat), i < a.w.g.length -> (gD a.w.g i).st = (z_up2_42 a a_1 i).st /\ (gD a.w.g i).lo = (z_up2_42 a a_1 i).lo /\ (gD a.w.g i).hi = (z_up2_42 a
 a_1 i).hi) /\ a.w.b.length = (z_up2_43 a a_1).length /\ (∀ (i : Nat), i < a.w.b.length -> gD a.w.b i = gD (z_up2_43 a a_1) i) /\ z_up2_27 a /\ (0 : Int) <= z_up2_38 a_1 /\ z_up2_38 a_1 <= (2000 : Int)) /\ ((z_up2_52 a a_1).n =
 z_up2_46 a a_1 /\ (z_up2_52 a a_1).d = z_up2_47 a a_1 /\ (z_up2_53 a a_1).n = z_up2_49 a a_1 /\ (z_up2_53 a a_1).d = z_up2_50 a a_1 /\ a.f.n = a.f.n /\ a.f.d = a.f.d /\ z_up2_33 a) /\ bif st2 (BnF.mk (z_up2_51 a a_1) a.f) then
 ∃ (a_3 : LH), (a_3.lo = z_up2_38 a_1 /\ a_3.hi = a_1.hi /\ z_up2_56 a a_1) /\ z_up2_57 a a_3 a_1 else ∃ (a_3 : LH), (a_3.lo = a_1.lo /\ a_3.hi = IntKind.i64.wrap (z_up2_38 a_1 - (1 : Int)) /\ z_up2_56 a a_1) /\ z_up2_57 a a_3
 a_1 else upM st2 a = a_1.lo /\ z_up2_34 a) := by kernel_rfl
theorem p_up2 (a : UpI) (h : bkOk a.w.g a.w.b) (hk : 0 <= a.k /\ a.k <= a.w.b.length) (hh : a.w.has a.k = true) : V_up2 a := by
 rw [vc_up2]; delta z_up2_0 z_up2_1 z_up2_2 z_up2_3 z_up2_4 z_up2_5 z_up2_6 z_up2_7 z_up2_8 z_up2_9 z_up2_10 z_up2_11 z_up2_12 z_up2_13 z_up2_14 z_up2_15 z_up2_16 z_up2_17 z_up2_18 z_up2_19 z_up2_20 z_up2_21 z_up2_22 z_up2_23 z_up2_24 z_up2_25 z_up2_26 z_up2_27 z_up2_28 z_up2_29 z_up2_30 z_up2_31 z_up2_32 z_up2_33 z_up2_34 z_up2_35 z_up2_36 z_up2_37 z_up2_38 z_up2_39 z_up2_40 z_up2_41 z_up2_42 z_up2_43 z_up2_44 z_up2_45 z_up2_46 z_up2_47 z_up2_48 z_up2_49 z_up2_50 z_up2_51 z_up2_52 z_up2_53 z_up2_54 z_up2_55 z_up2_56 z_up2_57; simp only [condP, eq_self, implies_true, and_self, true_and, and_true, true_implies, forall_const, decide_eq_true_eq, decide_eq_false_iff_not, Int.toNat_natCast, dSpan_eSpan, dInt_eInt, dGau_e, dPt_e, dLn_e, dRt_e, Nat.zero_add, Int.zero_sub, Nat.le_eq, Nat.succ_eq_add_one, Nat.add_one_le_iff, Bool.not_eq_true', Bool.not_eq_false', rng_length, dSpan_mk, rng_getD, bk_eta, upB_eta, upB_g, upB_b, bkT_eta, dBnd_mk, if_true]
 obtain ⟨s1, s2, s3, s4⟩ := span_ok h hk.1 hk.2
 refine ⟨⟨h, hk⟩, ⟨⟨(spanM a.w a.k).lo - 1, (spanM a.w a.k).hi⟩, ⟨(w64 (n := (spanM a.w a.k).lo - 1) (by omega) (by omega)).symm, rfl⟩, Int.le_refl _, (by omega : (spanM a.w a.k).lo - 1 <= (spanM a.w a.k).hi), Int.le_refl _, λ m hm => upL_fuel 3000 m ((spanM a.w a.k).lo - 1) (spanM a.w a.k).hi (by omega) (by omega) hm⟩, λ x ⟨i1, i2, i3, i4⟩ => ⟨λ hl => ?_, λ hl => ?_⟩⟩
 ·obtain ⟨m1, m2⟩ := mid_in hl
  simp only [mid_w (lo := x.lo) (hi := x.hi) (by omega) (by omega) (by omega), show ∀ t, kB ⟨a.w, t⟩ = (leC a.w.b t : Int) from λ _ => rfl, s4 _ (show (spanM a.w a.k).lo <= x.lo + (x.hi - x.lo + 1).tdiv 2 by omega) (by omega), upB_same hh, implies_true, and_true]
  obtain ⟨n, hn⟩ : ∃ n, (x.hi - x.lo).toNat = n + 1 := ⟨(x.hi - x.lo).toNat - 1, by omega⟩
  have key := i4 (n + 1) (by omega)
  unfold upL at key
  rw [decide_eq_true hl] at key
  generalize hM : x.lo + (x.hi - x.lo + 1).tdiv 2 = M at *
  refine ⟨by simp, ⟨h, by omega, by omega⟩, λ hp => ⟨⟨M, x.hi⟩, ⟨rfl, rfl⟩, ⟨(by omega : (spanM a.w a.k).lo - 1 <= M), m2, i3, λ m hm => ?_⟩, (by omega : (x.hi - M).toNat < (x.hi - x.lo).toNat)⟩, λ hp => ⟨⟨x.lo, M - 1⟩, ⟨rfl, (w64 (n := M - 1) (by omega) (by omega)).symm⟩, ⟨i1, (by omega : x.lo <= M - 1), (by omega : M - 1 <= (spanM a.w a.k).hi), λ m hm => ?_⟩, (by omega : (M - 1 - x.lo).toNat < (x.hi - x.lo).toNat)⟩⟩
  ·rw [key, show upP st2 a M = true from hp]
   exact upL_fuel n m M x.hi m2 (by omega) hm
  ·rw [key, show upP st2 a M = false from hp]
   exact upL_fuel n m x.lo (M - 1) (by omega) (by omega) hm
 ·rw [i4 0 (by omega)]; rfl
theorem ok_up1 : SpecOk Try.prog n_upTo ((C_up st1 n_Stages1).spec (dUpI n_Stages1)) := okC (C_up st1 n_Stages1) (A_up st1 n_Stages1 ((C_bnF st1).spec dBnF)) [] [] fn_upTo (λ _ => by kernel_rfl) (λ _ => gok_cons ok_span (gok_cons ok_bnd (gok_cons ok_st1 gok_nil))) (λ (a : UpI) h => by
 have h : bkOk a.w.g a.w.b /\ 0 <= a.k /\ a.k <= a.w.b.length /\ a.w.has a.k = true := h
 exact p_up1 a h.1 ⟨h.2.1, h.2.2.1⟩ h.2.2.2) (λ _ => noI rfl rfl) _
theorem ok_up2 : SpecOk Try.prog n_upTo ((C_up st2 n_Stages2).spec (dUpI n_Stages2)) := okC (C_up st2 n_Stages2) (A_up st2 n_Stages2 ((C_bnF st2).spec dBnF)) [] [] fn_upTo (λ _ => by kernel_rfl) (λ _ => gok_cons ok_span (gok_cons ok_bnd (gok_cons ok_st2 gok_nil))) (λ (a : UpI) h => by
 have h : bkOk a.w.g a.w.b /\ 0 <= a.k /\ a.k <= a.w.b.length /\ a.w.has a.k = true := h
 exact p_up2 a h.1 ⟨h.2.1, h.2.2.1⟩ h.2.2.2) (λ _ => noI rfl rfl) _
def dryR (r : Rt) : Bool := r.n == 0 && r.d == 1
def s_dry1 := pD dR1 λ r => .bool (dryR r)
def V_dry1 (r : Rt) : Prop := fnVC Try.prog (ann 6 []) F_Dry1 (bodyOf F_Dry1) (xR1 r) (heapOf []) (.bool (dryR r)) [] [] []
theorem vc_dry1 (r : Rt) : (V_dry1 r) = (dryR r = (r.n == 0 && (r.d == 1 && true))) := by kernel_rfl
structure BnO where
 b : Bnd
def bxF : AObj := .box [.fn (.func n_Dry1) [] []]
def dBnO : List AVal -> Heap -> Option (BnO × List (Nat × Nat) × List Nat)
 | [.d x, .bptr id _], H => match H id with
  | .live (.box [.fn (.func g) [] []]) => if g = n_Dry1 then some (⟨dBnd x⟩, [(100, id)], []) else none
  | _ => none
 | _, _ => none
def C_bnO (v : BnO -> Bool) : Ctr := { ro := [100], α := BnO, xs := λ a => [.d (eBnd a.b), .bptr 100 0], L := λ _ => [(100, bxF)], val := λ a => .bool (v a), keep := λ _ => [(100, .live bxF)] }
def dr2 (a : BnO) : Bool := dryR a.b.hi
def dr3 (a : BnO) : Bool := dryR a.b.lo
def A_bnO : Ann := { ann 8 [(n_Dry1, s_dry1)] with E := [100] }
def V_dr2 (a : BnO) : Prop := fnVC Try.prog A_bnO F_Dry2 (bodyOf F_Dry2) ((C_bnO dr2).xs a) (heapOf ((C_bnO dr2).L a)) ((C_bnO dr2).val a) ((C_bnO dr2).keep a) [] []
theorem vc_dr2 (a : BnO) : (V_dr2 a) = (dr2 a = dryR a.b.hi) := by kernel_rfl
def V_dr3 (a : BnO) : Prop := fnVC Try.prog A_bnO F_Dry3 (bodyOf F_Dry3) ((C_bnO dr3).xs a) (heapOf ((C_bnO dr3).L a)) ((C_bnO dr3).val a) ((C_bnO dr3).keep a) [] []
theorem vc_dr3 (a : BnO) : (V_dr3 a) = (dr3 a = dryR a.b.lo) := by kernel_rfl
theorem ok_dry1 : SpecOk Try.prog n_Dry1 s_dry1 := pD_ok xR1 hR1 λ g _ => fnt (A := ann 6 []) (ren := []) (fz := []) fn_Dry1 (by kernel_rfl) gok_nil (by
 show V_dry1 g; rw [vc_dry1]; unfold dryR; rw [Bool.and_true])
theorem ok_dr2 : SpecOk Try.prog n_Dry2 ((C_bnO dr2).spec dBnO) := okC (C_bnO dr2) (λ _ => A_bnO) [] [] fn_Dry2 (λ _ => by kernel_rfl) (λ _ => gok_cons ok_dry1 gok_nil) (λ (a : BnO) _ => by
 show V_dr2 a; rw [vc_dr2]; rfl) (λ _ => noI rfl rfl) _
theorem ok_dr3 : SpecOk Try.prog n_Dry3 ((C_bnO dr3).spec dBnO) := okC (C_bnO dr3) (λ _ => A_bnO) [] [] fn_Dry3 (λ _ => by kernel_rfl) (λ _ => gok_cons ok_dry1 gok_nil) (λ (a : BnO) _ => by
 show V_dr3 a; rw [vc_dr3]; rfl) (λ _ => noI rfl rfl) _
def dUpO (n : FuncId) : List AVal -> Heap -> Option (BkI × List (Nat × Nat) × List Nat)
 | [.bptr id _, .d k, .fn (.func g) [] [.bptr c _]], H => if g = n then match decBk H id, H c with
  | some (w, q), .live (.box [.fn (.func f) [] []]) => if f = n_Dry1 then some (⟨w, dInt k⟩, [(100, id), (101, q), (102, c)], []) else none
  | _, _ => none else none
 | _, _ => none
def upPO (v : BnO -> Bool) (a : BkI) (t : Int) : Bool := v ⟨bndM (lB ⟨a.w, t⟩) t⟩
def upMO (v : BnO -> Bool) (a : BkI) : Int := upL (upPO v a) 3000 ((spanM a.w a.k).lo - 1) (spanM a.w a.k).hi
def upHO (a : BkI) : List (Nat × HCell) := bkK a.w ++ [(102, .live bxF)]
def upO3 (v : BnO -> Bool) (n : FuncId) (a : BkI) : Shape := { α := LH, dflt := default, T := λ x => ⟨[(0, .bptr 100 0), (2, .fn (.func n) [] [.bptr 102 0]), (8, .int x.lo), (9, .int x.hi)], upHO a⟩, inv := λ x => (spanM a.w a.k).lo - 1 <= x.lo /\ x.lo <= x.hi /\ x.hi <= (spanM a.w a.k).hi /\ ∀ m : Nat, (x.hi - x.lo).toNat <= m -> upMO v a = upL (upPO v a) m x.lo x.hi, meas := λ x => (x.hi - x.lo).toNat }
def C_upO (v : BnO -> Bool) (n : FuncId) : Ctr := { ro := [100, 101, 102], α := BkI, xs := λ a => [.bptr 100 0, .int a.k, .fn (.func n) [] [.bptr 102 0]], L := λ a => bkL a.w ++ [(102, bxF)], val := λ a => .int (upMO v a), keep := λ a => upHO a, pre := λ a => [bkOk a.w.g a.w.b /\ 0 <= a.k /\ a.k <= a.w.b.length /\ a.w.has a.k = true] }
def A_upO (v : BnO -> Bool) (n : FuncId) (f : Sym.Spec) (a : BkI) : Ann := { ann 44 [(n_span, C_span.spec dBkI), (n_bounds, C_bnd.spec dBkt), (n, f)] with E := [100, 101, 102], loops := λ id => if id = 3 then some [upO3 v n a] else none }
def V_upO2 (a : BkI) : Prop := fnVC Try.prog (A_upO dr2 n_Dry2 ((C_bnO dr2).spec dBnO) a) F_upTo (bodyOf F_upTo) ((C_upO dr2 n_Dry2).xs a) (heapOf ((C_upO dr2 n_Dry2).L a)) ((C_upO dr2 n_Dry2).val a) ((C_upO dr2 n_Dry2).keep a) [] []
abbrev z_upO2_0 (a : BkI) : List Gau := rng a.w.g.length λ (i : Nat) => gD a.w.g i
abbrev z_upO2_1 (a : BkI) : Nat := (z_upO2_0 a).length
abbrev z_upO2_2 (a : BkI) : Prop := z_upO2_1 a = a.w.g.length
abbrev z_upO2_3 (a : BkI) (i : Nat) : Gau := gD (z_upO2_0 a) i
abbrev z_upO2_4 (a : BkI) (i : Nat) : Int := (z_upO2_3 a i).st
abbrev z_upO2_5 (a : BkI) (i : Nat) : Int := (z_upO2_3 a i).lo
abbrev z_upO2_6 (a : BkI) (i : Nat) : Int := (z_upO2_3 a i).hi
abbrev z_upO2_7 (a : BkI) : Prop := ∀ (i : Nat), i < z_upO2_1 a -> z_upO2_4 a i = (gD a.w.g i).st /\ z_upO2_5 a i = (gD a.w.g i).lo /\ z_upO2_6 a i = (gD a.w.g i).hi
abbrev z_upO2_8 (a : BkI) : List Int := rng a.w.b.length λ (i : Nat) => gD a.w.b i
abbrev z_upO2_9 (a : BkI) : Nat := (z_upO2_8 a).length
abbrev z_upO2_10 (a : BkI) : Prop := z_upO2_9 a = a.w.b.length
abbrev z_upO2_11 (a : BkI) (i : Nat) : Int := gD (z_upO2_8 a) i
abbrev z_upO2_12 (a : BkI) : Prop := ∀ (i : Nat), i < z_upO2_9 a -> z_upO2_11 a i = gD a.w.b i
abbrev z_upO2_13 : Value := Value.slice none (0 : Nat) (0 : Nat)
abbrev z_upO2_14 : Prop := z_upO2_13 = z_upO2_13
abbrev z_upO2_15 (a : BkI) : Prop := ∀ (n : Int), a.w.has n = a.w.has n
abbrev z_upO2_16 (a : BkI) : Prop := ∀ (n : Int), a.w.st n = a.w.st n
abbrev z_upO2_17 (a : BkI) : Bk := Bk.mk (z_upO2_0 a) (z_upO2_8 a) a.w.has a.w.st
abbrev z_upO2_18 (a : BkI) (n : Int) : List Ln := fdM (z_upO2_17 a) n
abbrev z_upO2_19 (a : BkI) (n : Int) : Nat := (z_upO2_18 a n).length
abbrev z_upO2_20 (a : BkI) (n : Int) (i : Nat) : Ln := gD (z_upO2_18 a n) i
abbrev z_upO2_21 (a : BkI) (n : Int) (i : Nat) : Int := (z_upO2_20 a n i).a0
abbrev z_upO2_22 (a : BkI) (n : Int) (i : Nat) : Int := (z_upO2_20 a n i).a1
abbrev z_upO2_23 (a : BkI) (n : Int) (i : Nat) : Int := (z_upO2_20 a n i).b0
abbrev z_upO2_24 (a : BkI) (n : Int) (i : Nat) : Int := (z_upO2_20 a n i).b1
abbrev z_upO2_25 (a : BkI) : Prop := ∀ (n : Int), z_upO2_19 a n = (fdM a.w n).length /\ ∀ (i : Nat), i < z_upO2_19 a n -> z_upO2_21 a n i = (gD (fdM a.w n) i).a0 /\ z_upO2_22 a n i = (gD (fdM a.w n) i).a1 /\ z_upO2_23 a n i
 = (gD (fdM a.w n) i).b0 /\ z_upO2_24 a n i = (gD (fdM a.w n) i).b1
abbrev z_upO2_26 (i : Nat) (a : BkI) (n : Int) : Prop := i < (fdM a.w n).length
abbrev z_upO2_27 (a : BkI) : Prop := z_upO2_1 a <= (24 : Nat) /\ (∀ (x : Gau), List.Mem x (z_upO2_0 a) -> (0 : Int) <= x.st /\ x.st <= (2000 : Int) /\ (0 : Int) <= x.lo /\ x.lo <= x.hi /\ x.hi <= (200000 : Int)) /\ z_upO2_9 a <= (24 :
 Nat) /\ List.Pairwise (λ (x1 x2 : Int) => x1 < x2) (z_upO2_8 a) /\ ∀ (x : Int), List.Mem x (z_upO2_8 a) -> (1 : Int) <= x /\ x <= (2000 : Int)
abbrev z_upO2_28 (a : BkI) : Span := spanM (z_upO2_17 a) a.k
abbrev z_upO2_29 (a : BkI) : Prop := a.w.g.length = a.w.g.length
abbrev z_upO2_30 (a : BkI) : Prop := ∀ (i : Nat), i < a.w.g.length -> (gD a.w.g i).st = (gD a.w.g i).st /\ (gD a.w.g i).lo = (gD a.w.g i).lo /\ (gD a.w.g i).hi = (gD a.w.g i).hi
abbrev z_upO2_31 (a : BkI) : Prop := a.w.b.length = a.w.b.length
abbrev z_upO2_32 (a : BkI) : Prop := ∀ (i : Nat), i < a.w.b.length -> gD a.w.b i = gD a.w.b i
abbrev z_upO2_33 (a : BkI) : Prop := z_upO2_29 a /\ z_upO2_30 a /\ z_upO2_31 a /\ z_upO2_32 a /\ z_upO2_14 /\ z_upO2_15 a /\ z_upO2_16 a /\ ∀ (n : Int), (fdM a.w n).length = (fdM a.w n).length /\ ∀ (i : Nat), z_upO2_26 i a n ->
 (gD (fdM a.w n) i).a0 = (gD (fdM a.w n) i).a0 /\ (gD (fdM a.w n) i).a1 = (gD (fdM a.w n) i).a1 /\ (gD (fdM a.w n) i).b0 = (gD (fdM a.w n) i).b0 /\ (gD (fdM a.w n) i).b1 = (gD (fdM a.w n) i).b1
abbrev z_upO2_34 (a : LH) : Int := a.hi - a.lo
abbrev z_upO2_35 (a : LH) : Nat := (z_upO2_34 a).toNat
abbrev z_upO2_36 (a : BkI) (a1 : LH) : Prop := (spanM a.w a.k).lo - (1 : Int) <= a1.lo /\ a1.lo <= a1.hi /\ a1.hi <= (spanM a.w a.k).hi /\ ∀ (m : Nat), z_upO2_35 a1 <= m -> upMO dr2 a = upL (upPO dr2 a) m a1.lo a1.hi
abbrev z_upO2_37 (a : LH) : Int := IntKind.i64.wrap (a.lo + IntKind.i64.wrap ((IntKind.i64.wrap (IntKind.i64.wrap (z_upO2_34 a) + (1 : Int))).tdiv (2 : Int)))
abbrev z_upO2_38 (a : BkI) (a1 : LH) : BkT := BkT.mk (z_upO2_17 a) (z_upO2_37 a1)
abbrev z_upO2_39 (a : BkI) (a1 : LH) : Bk := upB (z_upO2_17 a) (kB (z_upO2_38 a a1))
abbrev z_upO2_40 (a : BkI) (a1 : LH) : List Gau := (z_upO2_39 a a1).g
abbrev z_upO2_41 (a : BkI) (a1 : LH) (i : Nat) : Gau := gD (z_upO2_40 a a1) i
abbrev z_upO2_42 (a : BkI) (a1 : LH) : List Int := (z_upO2_39 a a1).b
abbrev z_upO2_43 (a : BkI) (a1 : LH) : Bnd := bndM (lB (z_upO2_38 a a1)) (z_upO2_37 a1)
abbrev z_upO2_44 (a : BkI) (a1 : LH) : Rt := (z_upO2_43 a a1).lo
abbrev z_upO2_45 (a : BkI) (a1 : LH) : Int := (z_upO2_44 a a1).n
abbrev z_upO2_46 (a : BkI) (a1 : LH) : Int := (z_upO2_44 a a1).d
abbrev z_upO2_47 (a : BkI) (a1 : LH) : Rt := (z_upO2_43 a a1).hi
abbrev z_upO2_48 (a : BkI) (a1 : LH) : Int := (z_upO2_47 a a1).n
abbrev z_upO2_49 (a : BkI) (a1 : LH) : Int := (z_upO2_47 a a1).d
abbrev z_upO2_50 (a : BkI) (a1 : LH) : Bnd := dBnd (DVal.agg [eInt (z_upO2_45 a a1), eInt (z_upO2_46 a a1), eInt (z_upO2_48 a a1), eInt (z_upO2_49 a a1)])
abbrev z_upO2_51 (a : BkI) (a1 : LH) : Rt := (z_upO2_50 a a1).lo
abbrev z_upO2_52 (a : BkI) (a1 : LH) : Rt := (z_upO2_50 a a1).hi
abbrev z_upO2_53 (a : BkI) (a1 : LH) (n : Int) : List Ln := fdM (z_upO2_39 a a1) n
abbrev z_upO2_54 (a : BkI) (a1 : LH) (n : Int) (i : Nat) : Ln := gD (z_upO2_53 a a1 n) i
abbrev z_upO2_55 (a : BkI) (a1 : LH) : Prop := z_upO2_29 a /\ z_upO2_30 a /\ z_upO2_31 a /\ z_upO2_32 a /\ z_upO2_14 /\ (∀ (n : Int), a.w.has n = (z_upO2_39 a a1).has n) /\ (∀ (n : Int), a.w.st n = (z_upO2_39 a a1).st n) /\ ∀
 (n : Int), (fdM a.w n).length = (z_upO2_53 a a1 n).length /\ ∀ (i : Nat), z_upO2_26 i a n -> (gD (fdM a.w n) i).a0 = (z_upO2_54 a a1 n i).a0 /\ (gD (fdM a.w n) i).a1 = (z_upO2_54 a a1 n i).a1 /\ (gD (fdM a.w n) i).b0 =
 (z_upO2_54 a a1 n i).b0 /\ (gD (fdM a.w n) i).b1 = (z_upO2_54 a a1 n i).b1
abbrev z_upO2_56 (a : BkI) (a1 : LH) (a2 : LH) : Prop := z_upO2_36 a a1 /\ z_upO2_35 a1 < z_upO2_35 a2
theorem vc_upO2 (a : BkI) : (V_upO2 a) = ((a.k = a.k /\ z_upO2_2 a /\ z_upO2_7 a /\ z_upO2_10 a /\ z_upO2_12 a /\ z_upO2_14 /\ z_upO2_15 a /\ z_upO2_16 a /\ z_upO2_25 a /\ a.w.g.length = z_upO2_1 a /\ (∀ (i : Nat), i <
 a.w.g.length -> (gD a.w.g i).st = z_upO2_4 a i /\ (gD a.w.g i).lo = z_upO2_5 a i /\ (gD a.w.g i).hi = z_upO2_6 a i) /\ a.w.b.length = z_upO2_9 a /\ (∀ (i : Nat), i < a.w.b.length -> gD a.w.b i = z_upO2_11 a i) /\ z_upO2_14 /\
 z_upO2_15 a /\ z_upO2_16 a /\ (∀ (n : Int), (fdM a.w n).length = z_upO2_19 a n /\ ∀ (i : Nat), z_upO2_26 i a n -> (gD (fdM a.w n) i).a0 = z_upO2_21 a n i /\ (gD (fdM a.w n) i).a1 = z_upO2_22 a n i /\ (gD (fdM a.w n) i).b0 =
 z_upO2_23 a n i /\ (gD (fdM a.w n) i).b1 = z_upO2_24 a n i) /\ z_upO2_27 a /\ (0 : Int) <= a.k /\ a.k <= (↑(z_upO2_9 a) : Int)) /\ (∃ (a_1 : LH), (a_1.lo = IntKind.i64.wrap ((z_upO2_28 a).lo - (1 : Int)) /\ a_1.hi = (z_upO2_28
 a).hi /\ z_upO2_33 a) /\ z_upO2_36 a a_1) /\ ∀ (a_1 : LH), z_upO2_36 a a_1 -> bif decide (a_1.lo < a_1.hi) then (Int.ofNat (2 : Nat) = Int.ofNat (0 : Nat) -> False) /\ (z_upO2_37 a_1 = z_upO2_37 a_1 /\ z_upO2_2 a /\ z_upO2_7 a /\
 z_upO2_10 a /\ z_upO2_12 a /\ z_upO2_14 /\ z_upO2_15 a /\ z_upO2_16 a /\ z_upO2_25 a /\ a.w.g.length = (z_upO2_40 a a_1).length /\ (∀ (i : Nat), i < a.w.g.length -> (gD a.w.g i).st = (z_upO2_41 a a_1 i).st /\ (gD a.w.g i).lo =
 (z_upO2_41 a a_1 i).lo /\ (gD a.w.g i).hi = (z_upO2_41 a a_1 i).hi) /\ a.w.b.length = (z_upO2_42 a a_1).length /\ (∀ (i : Nat), i < a.w.b.length -> gD a.w.b i = gD (z_upO2_42 a a_1) i) /\ z_upO2_27 a /\ (0 : Int) <= z_upO2_37
 a_1 /\ z_upO2_37 a_1 <= (2000 : Int)) /\ ((z_upO2_51 a a_1).n = z_upO2_45 a a_1 /\ (z_upO2_51 a a_1).d = z_upO2_46 a a_1 /\ (z_upO2_52 a a_1).n = z_upO2_48 a a_1 /\ (z_upO2_52 a a_1).d = z_upO2_49 a a_1) /\ bif dr2 (BnO.mk
 (z_upO2_50 a a_1)) then ∃ (a_3 : LH), (a_3.lo = z_upO2_37 a_1 /\ a_3.hi = a_1.hi /\ z_upO2_55 a a_1) /\ z_upO2_56 a a_3 a_1 else ∃ (a_3 : LH), (a_3.lo = a_1.lo /\ a_3.hi = IntKind.i64.wrap (z_upO2_37 a_1 - (1 : Int)) /\
 z_upO2_55 a a_1) /\ z_upO2_56 a a_3 a_1 else upMO dr2 a = a_1.lo /\ z_upO2_33 a) := by kernel_rfl
def V_upO3 (a : BkI) : Prop := fnVC Try.prog (A_upO dr3 n_Dry3 ((C_bnO dr3).spec dBnO) a) F_upTo (bodyOf F_upTo) ((C_upO dr3 n_Dry3).xs a) (heapOf ((C_upO dr3 n_Dry3).L a)) ((C_upO dr3 n_Dry3).val a) ((C_upO dr3 n_Dry3).keep a) [] []
abbrev z_upO3_0 (a : BkI) : List Gau := rng a.w.g.length λ (i : Nat) => gD a.w.g i
abbrev z_upO3_1 (a : BkI) : Nat := (z_upO3_0 a).length
abbrev z_upO3_2 (a : BkI) : Prop := z_upO3_1 a = a.w.g.length
abbrev z_upO3_3 (a : BkI) (i : Nat) : Gau := gD (z_upO3_0 a) i
abbrev z_upO3_4 (a : BkI) (i : Nat) : Int := (z_upO3_3 a i).st
abbrev z_upO3_5 (a : BkI) (i : Nat) : Int := (z_upO3_3 a i).lo
abbrev z_upO3_6 (a : BkI) (i : Nat) : Int := (z_upO3_3 a i).hi
abbrev z_upO3_7 (a : BkI) : Prop := ∀ (i : Nat), i < z_upO3_1 a -> z_upO3_4 a i = (gD a.w.g i).st /\ z_upO3_5 a i = (gD a.w.g i).lo /\ z_upO3_6 a i = (gD a.w.g i).hi
abbrev z_upO3_8 (a : BkI) : List Int := rng a.w.b.length λ (i : Nat) => gD a.w.b i
abbrev z_upO3_9 (a : BkI) : Nat := (z_upO3_8 a).length
abbrev z_upO3_10 (a : BkI) : Prop := z_upO3_9 a = a.w.b.length
abbrev z_upO3_11 (a : BkI) (i : Nat) : Int := gD (z_upO3_8 a) i
abbrev z_upO3_12 (a : BkI) : Prop := ∀ (i : Nat), i < z_upO3_9 a -> z_upO3_11 a i = gD a.w.b i
abbrev z_upO3_13 : Value := Value.slice none (0 : Nat) (0 : Nat)
abbrev z_upO3_14 : Prop := z_upO3_13 = z_upO3_13
abbrev z_upO3_15 (a : BkI) : Prop := ∀ (n : Int), a.w.has n = a.w.has n
abbrev z_upO3_16 (a : BkI) : Prop := ∀ (n : Int), a.w.st n = a.w.st n
abbrev z_upO3_17 (a : BkI) : Bk := Bk.mk (z_upO3_0 a) (z_upO3_8 a) a.w.has a.w.st
abbrev z_upO3_18 (a : BkI) (n : Int) : List Ln := fdM (z_upO3_17 a) n
abbrev z_upO3_19 (a : BkI) (n : Int) : Nat := (z_upO3_18 a n).length
abbrev z_upO3_20 (a : BkI) (n : Int) (i : Nat) : Ln := gD (z_upO3_18 a n) i
abbrev z_upO3_21 (a : BkI) (n : Int) (i : Nat) : Int := (z_upO3_20 a n i).a0
abbrev z_upO3_22 (a : BkI) (n : Int) (i : Nat) : Int := (z_upO3_20 a n i).a1
abbrev z_upO3_23 (a : BkI) (n : Int) (i : Nat) : Int := (z_upO3_20 a n i).b0
abbrev z_upO3_24 (a : BkI) (n : Int) (i : Nat) : Int := (z_upO3_20 a n i).b1
abbrev z_upO3_25 (a : BkI) : Prop := ∀ (n : Int), z_upO3_19 a n = (fdM a.w n).length /\ ∀ (i : Nat), i < z_upO3_19 a n -> z_upO3_21 a n i = (gD (fdM a.w n) i).a0 /\ z_upO3_22 a n i = (gD (fdM a.w n) i).a1 /\ z_upO3_23 a n i
 = (gD (fdM a.w n) i).b0 /\ z_upO3_24 a n i = (gD (fdM a.w n) i).b1
abbrev z_upO3_26 (i : Nat) (a : BkI) (n : Int) : Prop := i < (fdM a.w n).length
abbrev z_upO3_27 (a : BkI) : Prop := z_upO3_1 a <= (24 : Nat) /\ (∀ (x : Gau), List.Mem x (z_upO3_0 a) -> (0 : Int) <= x.st /\ x.st <= (2000 : Int) /\ (0 : Int) <= x.lo /\ x.lo <= x.hi /\ x.hi <= (200000 : Int)) /\ z_upO3_9 a <= (24 :
 Nat) /\ List.Pairwise (λ (x1 x2 : Int) => x1 < x2) (z_upO3_8 a) /\ ∀ (x : Int), List.Mem x (z_upO3_8 a) -> (1 : Int) <= x /\ x <= (2000 : Int)
abbrev z_upO3_28 (a : BkI) : Span := spanM (z_upO3_17 a) a.k
abbrev z_upO3_29 (a : BkI) : Prop := a.w.g.length = a.w.g.length
abbrev z_upO3_30 (a : BkI) : Prop := ∀ (i : Nat), i < a.w.g.length -> (gD a.w.g i).st = (gD a.w.g i).st /\ (gD a.w.g i).lo = (gD a.w.g i).lo /\ (gD a.w.g i).hi = (gD a.w.g i).hi
abbrev z_upO3_31 (a : BkI) : Prop := a.w.b.length = a.w.b.length
abbrev z_upO3_32 (a : BkI) : Prop := ∀ (i : Nat), i < a.w.b.length -> gD a.w.b i = gD a.w.b i
abbrev z_upO3_33 (a : BkI) : Prop := z_upO3_29 a /\ z_upO3_30 a /\ z_upO3_31 a /\ z_upO3_32 a /\ z_upO3_14 /\ z_upO3_15 a /\ z_upO3_16 a /\ ∀ (n : Int), (fdM a.w n).length = (fdM a.w n).length /\ ∀ (i : Nat), z_upO3_26 i a n ->
 (gD (fdM a.w n) i).a0 = (gD (fdM a.w n) i).a0 /\ (gD (fdM a.w n) i).a1 = (gD (fdM a.w n) i).a1 /\ (gD (fdM a.w n) i).b0 = (gD (fdM a.w n) i).b0 /\ (gD (fdM a.w n) i).b1 = (gD (fdM a.w n) i).b1
abbrev z_upO3_34 (a : LH) : Int := a.hi - a.lo
abbrev z_upO3_35 (a : LH) : Nat := (z_upO3_34 a).toNat
abbrev z_upO3_36 (a : BkI) (a1 : LH) : Prop := (spanM a.w a.k).lo - (1 : Int) <= a1.lo /\ a1.lo <= a1.hi /\ a1.hi <= (spanM a.w a.k).hi /\ ∀ (m : Nat), z_upO3_35 a1 <= m -> upMO dr3 a = upL (upPO dr3 a) m a1.lo a1.hi
abbrev z_upO3_37 (a : LH) : Int := IntKind.i64.wrap (a.lo + IntKind.i64.wrap ((IntKind.i64.wrap (IntKind.i64.wrap (z_upO3_34 a) + (1 : Int))).tdiv (2 : Int)))
abbrev z_upO3_38 (a : BkI) (a1 : LH) : BkT := BkT.mk (z_upO3_17 a) (z_upO3_37 a1)
abbrev z_upO3_39 (a : BkI) (a1 : LH) : Bk := upB (z_upO3_17 a) (kB (z_upO3_38 a a1))
abbrev z_upO3_40 (a : BkI) (a1 : LH) : List Gau := (z_upO3_39 a a1).g
abbrev z_upO3_41 (a : BkI) (a1 : LH) (i : Nat) : Gau := gD (z_upO3_40 a a1) i
abbrev z_upO3_42 (a : BkI) (a1 : LH) : List Int := (z_upO3_39 a a1).b
abbrev z_upO3_43 (a : BkI) (a1 : LH) : Bnd := bndM (lB (z_upO3_38 a a1)) (z_upO3_37 a1)
abbrev z_upO3_44 (a : BkI) (a1 : LH) : Rt := (z_upO3_43 a a1).lo
abbrev z_upO3_45 (a : BkI) (a1 : LH) : Int := (z_upO3_44 a a1).n
abbrev z_upO3_46 (a : BkI) (a1 : LH) : Int := (z_upO3_44 a a1).d
abbrev z_upO3_47 (a : BkI) (a1 : LH) : Rt := (z_upO3_43 a a1).hi
abbrev z_upO3_48 (a : BkI) (a1 : LH) : Int := (z_upO3_47 a a1).n
abbrev z_upO3_49 (a : BkI) (a1 : LH) : Int := (z_upO3_47 a a1).d
abbrev z_upO3_50 (a : BkI) (a1 : LH) : Bnd := dBnd (DVal.agg [eInt (z_upO3_45 a a1), eInt (z_upO3_46 a a1), eInt (z_upO3_48 a a1), eInt (z_upO3_49 a a1)])
abbrev z_upO3_51 (a : BkI) (a1 : LH) : Rt := (z_upO3_50 a a1).lo
abbrev z_upO3_52 (a : BkI) (a1 : LH) : Rt := (z_upO3_50 a a1).hi
abbrev z_upO3_53 (a : BkI) (a1 : LH) (n : Int) : List Ln := fdM (z_upO3_39 a a1) n
abbrev z_upO3_54 (a : BkI) (a1 : LH) (n : Int) (i : Nat) : Ln := gD (z_upO3_53 a a1 n) i
abbrev z_upO3_55 (a : BkI) (a1 : LH) : Prop := z_upO3_29 a /\ z_upO3_30 a /\ z_upO3_31 a /\ z_upO3_32 a /\ z_upO3_14 /\ (∀ (n : Int), a.w.has n = (z_upO3_39 a a1).has n) /\ (∀ (n : Int), a.w.st n = (z_upO3_39 a a1).st n) /\ ∀
 (n : Int), (fdM a.w n).length = (z_upO3_53 a a1 n).length /\ ∀ (i : Nat), z_upO3_26 i a n -> (gD (fdM a.w n) i).a0 = (z_upO3_54 a a1 n i).a0 /\ (gD (fdM a.w n) i).a1 = (z_upO3_54 a a1 n i).a1 /\ (gD (fdM a.w n) i).b0 =
 (z_upO3_54 a a1 n i).b0 /\ (gD (fdM a.w n) i).b1 = (z_upO3_54 a a1 n i).b1
abbrev z_upO3_56 (a : BkI) (a1 : LH) (a2 : LH) : Prop := z_upO3_36 a a1 /\ z_upO3_35 a1 < z_upO3_35 a2
theorem vc_upO3 (a : BkI) : (V_upO3 a) = ((a.k = a.k /\ z_upO3_2 a /\ z_upO3_7 a /\ z_upO3_10 a /\ z_upO3_12 a /\ z_upO3_14 /\ z_upO3_15 a /\ z_upO3_16 a /\ z_upO3_25 a /\ a.w.g.length = z_upO3_1 a /\ (∀ (i : Nat), i <
 a.w.g.length -> (gD a.w.g i).st = z_upO3_4 a i /\ (gD a.w.g i).lo = z_upO3_5 a i /\ (gD a.w.g i).hi = z_upO3_6 a i) /\ a.w.b.length = z_upO3_9 a /\ (∀ (i : Nat), i < a.w.b.length -> gD a.w.b i = z_upO3_11 a i) /\ z_upO3_14 /\
 z_upO3_15 a /\ z_upO3_16 a /\ (∀ (n : Int), (fdM a.w n).length = z_upO3_19 a n /\ ∀ (i : Nat), z_upO3_26 i a n -> (gD (fdM a.w n) i).a0 = z_upO3_21 a n i /\ (gD (fdM a.w n) i).a1 = z_upO3_22 a n i /\ (gD (fdM a.w n) i).b0 =
 z_upO3_23 a n i /\ (gD (fdM a.w n) i).b1 = z_upO3_24 a n i) /\ z_upO3_27 a /\ (0 : Int) <= a.k /\ a.k <= (↑(z_upO3_9 a) : Int)) /\ (∃ (a_1 : LH), (a_1.lo = IntKind.i64.wrap ((z_upO3_28 a).lo - (1 : Int)) /\ a_1.hi = (z_upO3_28
 a).hi /\ z_upO3_33 a) /\ z_upO3_36 a a_1) /\ ∀ (a_1 : LH), z_upO3_36 a a_1 -> bif decide (a_1.lo < a_1.hi) then (Int.ofNat (2 : Nat) = Int.ofNat (0 : Nat) -> False) /\ (z_upO3_37 a_1 = z_upO3_37 a_1 /\ z_upO3_2 a /\ z_upO3_7 a /\
 z_upO3_10 a /\ z_upO3_12 a /\ z_upO3_14 /\ z_upO3_15 a /\ z_upO3_16 a /\ z_upO3_25 a /\ a.w.g.length = (z_upO3_40 a a_1).length /\ (∀ (i : Nat), i < a.w.g.length -> (gD a.w.g i).st = (z_upO3_41 a a_1 i).st /\ (gD a.w.g i).lo =
 (z_upO3_41 a a_1 i).lo /\ (gD a.w.g i).hi = (z_upO3_41 a a_1 i).hi) /\ a.w.b.length = (z_upO3_42 a a_1).length /\ (∀ (i : Nat), i < a.w.b.length -> gD a.w.b i = gD (z_upO3_42 a a_1) i) /\ z_upO3_27 a /\ (0 : Int) <= z_upO3_37
 a_1 /\ z_upO3_37 a_1 <= (2000 : Int)) /\ ((z_upO3_51 a a_1).n = z_upO3_45 a a_1 /\ (z_upO3_51 a a_1).d = z_upO3_46 a a_1 /\ (z_upO3_52 a a_1).n = z_upO3_48 a a_1 /\ (z_upO3_52 a a_1).d = z_upO3_49 a a_1) /\ bif dr3 (BnO.mk
 (z_upO3_50 a a_1)) then ∃ (a_3 : LH), (a_3.lo = z_upO3_37 a_1 /\ a_3.hi = a_1.hi /\ z_upO3_55 a a_1) /\ z_upO3_56 a a_3 a_1 else ∃ (a_3 : LH), (a_3.lo = a_1.lo /\ a_3.hi = IntKind.i64.wrap (z_upO3_37 a_1 - (1 : Int)) /\
 z_upO3_55 a a_1) /\ z_upO3_56 a a_3 a_1 else upMO dr3 a = a_1.lo /\ z_upO3_33 a) := by kernel_rfl
theorem p_upO2 (a : BkI) (h : bkOk a.w.g a.w.b) (hk : 0 <= a.k /\ a.k <= a.w.b.length) (hh : a.w.has a.k = true) : V_upO2 a := by
 rw [vc_upO2]; delta z_upO2_0 z_upO2_1 z_upO2_2 z_upO2_3 z_upO2_4 z_upO2_5 z_upO2_6 z_upO2_7 z_upO2_8 z_upO2_9 z_upO2_10 z_upO2_11 z_upO2_12 z_upO2_13 z_upO2_14 z_upO2_15 z_upO2_16 z_upO2_17 z_upO2_18 z_upO2_19 z_upO2_20 z_upO2_21 z_upO2_22 z_upO2_23 z_upO2_24 z_upO2_25 z_upO2_26 z_upO2_27 z_upO2_28 z_upO2_29 z_upO2_30 z_upO2_31 z_upO2_32 z_upO2_33 z_upO2_34 z_upO2_35 z_upO2_36 z_upO2_37 z_upO2_38 z_upO2_39 z_upO2_40 z_upO2_41 z_upO2_42 z_upO2_43 z_upO2_44 z_upO2_45 z_upO2_46 z_upO2_47 z_upO2_48 z_upO2_49 z_upO2_50 z_upO2_51 z_upO2_52 z_upO2_53 z_upO2_54 z_upO2_55 z_upO2_56; simp only [condP, eq_self, implies_true, and_self, true_and, and_true, true_implies, forall_const, decide_eq_true_eq, decide_eq_false_iff_not, Int.toNat_natCast, dSpan_eSpan, dInt_eInt, dGau_e, dPt_e, dLn_e, dRt_e, Nat.zero_add, Int.zero_sub, Nat.le_eq, Nat.succ_eq_add_one, Nat.add_one_le_iff, Bool.not_eq_true', Bool.not_eq_false', rng_length, dSpan_mk, rng_getD, bk_eta, upB_eta, upB_g, upB_b, bkT_eta, dBnd_mk, if_true]
 obtain ⟨s1, s2, s3, s4⟩ := span_ok h hk.1 hk.2
 refine ⟨⟨h, hk⟩, ⟨⟨(spanM a.w a.k).lo - 1, (spanM a.w a.k).hi⟩, ⟨(w64 (n := (spanM a.w a.k).lo - 1) (by omega) (by omega)).symm, rfl⟩, Int.le_refl _, (by omega : (spanM a.w a.k).lo - 1 <= (spanM a.w a.k).hi), Int.le_refl _, λ m hm => upL_fuel 3000 m ((spanM a.w a.k).lo - 1) (spanM a.w a.k).hi (by omega) (by omega) hm⟩, λ x ⟨i1, i2, i3, i4⟩ => ⟨λ hl => ?_, λ hl => ?_⟩⟩
 ·obtain ⟨m1, m2⟩ := mid_in hl
  simp only [mid_w (lo := x.lo) (hi := x.hi) (by omega) (by omega) (by omega), show ∀ t, kB ⟨a.w, t⟩ = (leC a.w.b t : Int) from λ _ => rfl, s4 _ (show (spanM a.w a.k).lo <= x.lo + (x.hi - x.lo + 1).tdiv 2 by omega) (by omega), upB_same hh, implies_true, and_true]
  obtain ⟨n, hn⟩ : ∃ n, (x.hi - x.lo).toNat = n + 1 := ⟨(x.hi - x.lo).toNat - 1, by omega⟩
  have key := i4 (n + 1) (by omega)
  unfold upL at key
  rw [decide_eq_true hl] at key
  generalize hM : x.lo + (x.hi - x.lo + 1).tdiv 2 = M at *
  refine ⟨by simp, ⟨h, by omega, by omega⟩, λ hp => ⟨⟨M, x.hi⟩, ⟨rfl, rfl⟩, ⟨(by omega : (spanM a.w a.k).lo - 1 <= M), m2, i3, λ m hm => ?_⟩, (by omega : (x.hi - M).toNat < (x.hi - x.lo).toNat)⟩, λ hp => ⟨⟨x.lo, M - 1⟩, ⟨rfl, (w64 (n := M - 1) (by omega) (by omega)).symm⟩, ⟨i1, (by omega : x.lo <= M - 1), (by omega : M - 1 <= (spanM a.w a.k).hi), λ m hm => ?_⟩, (by omega : (M - 1 - x.lo).toNat < (x.hi - x.lo).toNat)⟩⟩
  ·rw [key, show upPO dr2 a M = true from hp]
   exact upL_fuel n m M x.hi m2 (by omega) hm
  ·rw [key, show upPO dr2 a M = false from hp]
   exact upL_fuel n m x.lo (M - 1) (by omega) (by omega) hm
 ·rw [i4 0 (by omega)]; rfl
theorem ok_upO2 : SpecOk Try.prog n_upTo ((C_upO dr2 n_Dry2).spec (dUpO n_Dry2)) := okC (C_upO dr2 n_Dry2) (A_upO dr2 n_Dry2 ((C_bnO dr2).spec dBnO)) [] [] fn_upTo (λ _ => by kernel_rfl) (λ _ => gok_cons ok_span (gok_cons ok_bnd (gok_cons ok_dr2 gok_nil))) (λ (a : BkI) h => by
 have h : bkOk a.w.g a.w.b /\ 0 <= a.k /\ a.k <= a.w.b.length /\ a.w.has a.k = true := h
 exact p_upO2 a h.1 ⟨h.2.1, h.2.2.1⟩ h.2.2.2) (λ _ => noI rfl rfl) _
theorem p_upO3 (a : BkI) (h : bkOk a.w.g a.w.b) (hk : 0 <= a.k /\ a.k <= a.w.b.length) (hh : a.w.has a.k = true) : V_upO3 a := by
 rw [vc_upO3]; delta z_upO3_0 z_upO3_1 z_upO3_2 z_upO3_3 z_upO3_4 z_upO3_5 z_upO3_6 z_upO3_7 z_upO3_8 z_upO3_9 z_upO3_10 z_upO3_11 z_upO3_12 z_upO3_13 z_upO3_14 z_upO3_15 z_upO3_16 z_upO3_17 z_upO3_18 z_upO3_19 z_upO3_20 z_upO3_21 z_upO3_22 z_upO3_23 z_upO3_24 z_upO3_25 z_upO3_26 z_upO3_27 z_upO3_28 z_upO3_29 z_upO3_30 z_upO3_31 z_upO3_32 z_upO3_33 z_upO3_34 z_upO3_35 z_upO3_36 z_upO3_37 z_upO3_38 z_upO3_39 z_upO3_40 z_upO3_41 z_upO3_42 z_upO3_43 z_upO3_44 z_upO3_45 z_upO3_46 z_upO3_47 z_upO3_48 z_upO3_49 z_upO3_50 z_upO3_51 z_upO3_52 z_upO3_53 z_upO3_54 z_upO3_55 z_upO3_56; simp only [condP, eq_self, implies_true, and_self, true_and, and_true, true_implies, forall_const, decide_eq_true_eq, decide_eq_false_iff_not, Int.toNat_natCast, dSpan_eSpan, dInt_eInt, dGau_e, dPt_e, dLn_e, dRt_e, Nat.zero_add, Int.zero_sub, Nat.le_eq, Nat.succ_eq_add_one, Nat.add_one_le_iff, Bool.not_eq_true', Bool.not_eq_false', rng_length, dSpan_mk, rng_getD, bk_eta, upB_eta, upB_g, upB_b, bkT_eta, dBnd_mk, if_true]
 obtain ⟨s1, s2, s3, s4⟩ := span_ok h hk.1 hk.2
 refine ⟨⟨h, hk⟩, ⟨⟨(spanM a.w a.k).lo - 1, (spanM a.w a.k).hi⟩, ⟨(w64 (n := (spanM a.w a.k).lo - 1) (by omega) (by omega)).symm, rfl⟩, Int.le_refl _, (by omega : (spanM a.w a.k).lo - 1 <= (spanM a.w a.k).hi), Int.le_refl _, λ m hm => upL_fuel 3000 m ((spanM a.w a.k).lo - 1) (spanM a.w a.k).hi (by omega) (by omega) hm⟩, λ x ⟨i1, i2, i3, i4⟩ => ⟨λ hl => ?_, λ hl => ?_⟩⟩
 ·obtain ⟨m1, m2⟩ := mid_in hl
  simp only [mid_w (lo := x.lo) (hi := x.hi) (by omega) (by omega) (by omega), show ∀ t, kB ⟨a.w, t⟩ = (leC a.w.b t : Int) from λ _ => rfl, s4 _ (show (spanM a.w a.k).lo <= x.lo + (x.hi - x.lo + 1).tdiv 2 by omega) (by omega), upB_same hh, implies_true, and_true]
  obtain ⟨n, hn⟩ : ∃ n, (x.hi - x.lo).toNat = n + 1 := ⟨(x.hi - x.lo).toNat - 1, by omega⟩
  have key := i4 (n + 1) (by omega)
  unfold upL at key
  rw [decide_eq_true hl] at key
  generalize hM : x.lo + (x.hi - x.lo + 1).tdiv 2 = M at *
  refine ⟨by simp, ⟨h, by omega, by omega⟩, λ hp => ⟨⟨M, x.hi⟩, ⟨rfl, rfl⟩, ⟨(by omega : (spanM a.w a.k).lo - 1 <= M), m2, i3, λ m hm => ?_⟩, (by omega : (x.hi - M).toNat < (x.hi - x.lo).toNat)⟩, λ hp => ⟨⟨x.lo, M - 1⟩, ⟨rfl, (w64 (n := M - 1) (by omega) (by omega)).symm⟩, ⟨i1, (by omega : x.lo <= M - 1), (by omega : M - 1 <= (spanM a.w a.k).hi), λ m hm => ?_⟩, (by omega : (M - 1 - x.lo).toNat < (x.hi - x.lo).toNat)⟩⟩
  ·rw [key, show upPO dr3 a M = true from hp]
   exact upL_fuel n m M x.hi m2 (by omega) hm
  ·rw [key, show upPO dr3 a M = false from hp]
   exact upL_fuel n m x.lo (M - 1) (by omega) (by omega) hm
 ·rw [i4 0 (by omega)]; rfl
theorem ok_upO3 : SpecOk Try.prog n_upTo ((C_upO dr3 n_Dry3).spec (dUpO n_Dry3)) := okC (C_upO dr3 n_Dry3) (A_upO dr3 n_Dry3 ((C_bnO dr3).spec dBnO)) [] [] fn_upTo (λ _ => by kernel_rfl) (λ _ => gok_cons ok_span (gok_cons ok_bnd (gok_cons ok_dr3 gok_nil))) (λ (a : BkI) h => by
 have h : bkOk a.w.g a.w.b /\ 0 <= a.k /\ a.k <= a.w.b.length /\ a.w.has a.k = true := h
 exact p_upO3 a h.1 ⟨h.2.1, h.2.2.1⟩ h.2.2.2) (λ _ => noI rfl rfl) _
end Go.Bal
