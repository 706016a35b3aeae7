/- Package rating: Flow, Reach. -/
import Derived.Test.YtoihhodbkimedaaRatI
set_option linter.unusedVariables false
set_option linter.unusedSimpArgs false
namespace Go.Bal
open Go Go.Sym Go.Proofs
structure GBt where
 g : List Gau
 b : List Int
 t : Int
def dGBt : List AVal -> Heap -> Option (GBt × List (Nat × Nat) × List Nat)
 | [x, y, .d t], H => match dGaus x H, dInts y H with
  | some (l, f), some (m, e) => some (⟨l, m, dInt t⟩, [], f ++ e)
  | _, _ => none
 | _, _ => none
def xGBt (a : GBt) : List AVal := [.d (eGaus a.g), .d (eIntsL a.b), .int a.t]
def gbt (a : GBt) : GB := ⟨a.g, a.b⟩
def inT (a : GBt) : Bool := inM a.t 0 2000
def preT (a : GBt) : Prop := a.g.length < 4611686018427387904 /\ a.b.length < 4611686018427387904
def C_stg : Ctr := { α := GBt, xs := xGBt, L := λ _ => [], val := λ _ => .tup [.bptr 0 0, .int 0], keep := λ a => [(0, .live (bkB (newB (gbt a)) 1)), (1, .live (bkM (newB (gbt a))))], pre := λ a => [preT a /\ openE (gbt a) = 0 /\ inT a = true] }
def C_stgA : Ctr := { α := GBt, xs := xGBt, L := λ _ => [], val := λ _ => .tup [.bptr 0 0, .int 4], keep := λ a => [(0, .live (bkB (newB (gbt a)) 1)), (1, .live (bkM (newB (gbt a))))], pre := λ a => [preT a /\ openE (gbt a) = 0 /\ inT a = false] }
def C_stgX : Ctr := { α := GBt, xs := xGBt, L := λ _ => [], val := λ a => .tup [.d (.v (.pointer none)), .int (openE (gbt a))], keep := λ _ => [], pre := λ a => [preT a /\ openE (gbt a) ≠ 0] }
def A_stg : Ann := ann 25 [(n_opened, C_open.spec dGB), (n_in, s_in)]
def A_stgX : Ann := ann 25 [(n_opened, C_openX.spec dGB), (n_in, s_in)]
def V_stg (a : GBt) : Prop := fnVC Try.prog A_stg F_staged (bodyOf F_staged) (xGBt a) (heapOf []) (C_stg.val a) (C_stg.keep a) [(0, 2032), (1, 2033)] []
abbrev z_stg_0 (a : GBt) : List Gau := rng a.g.length λ (i : Nat) => gD a.g i
abbrev z_stg_1 (a : GBt) : Nat := (z_stg_0 a).length
abbrev z_stg_2 (a : GBt) (i : Nat) : Gau := gD (z_stg_0 a) i
abbrev z_stg_3 (a : GBt) : List Int := rng a.b.length λ (i : Nat) => gD a.b i
abbrev z_stg_4 (a : GBt) : Nat := (z_stg_3 a).length
abbrev z_stg_5 (a : GBt) : GB := GB.mk (z_stg_0 a) (z_stg_3 a)
abbrev z_stg_6 (a : GBt) : Bk := newB (z_stg_5 a)
abbrev z_stg_7 (a : GBt) : List Gau := (z_stg_6 a).g
abbrev z_stg_8 (a : GBt) (i : Nat) : Gau := gD (z_stg_7 a) i
abbrev z_stg_9 (a : GBt) : List Int := (z_stg_6 a).b
abbrev z_stg_10 : Value := Value.slice none (0 : Nat) (0 : Nat)
abbrev z_stg_11 (a : GBt) (n : Int) : List Ln := fdM (z_stg_6 a) n
abbrev z_stg_12 (a : GBt) (n : Int) (i : Nat) : Ln := gD (z_stg_11 a n) i
abbrev z_stg_13 (a : GBt) : Prop := (newB (gbt a)).g.length = (z_stg_7 a).length /\ (∀ (i : Nat), i < (newB (gbt a)).g.length -> (gD (newB (gbt a)).g i).st = (z_stg_8 a i).st /\ (gD (newB (gbt a)).g i).lo = (z_stg_8 a i).lo
 /\ (gD (newB (gbt a)).g i).hi = (z_stg_8 a i).hi) /\ (newB (gbt a)).b.length = (z_stg_9 a).length /\ (∀ (i : Nat), i < (newB (gbt a)).b.length -> gD (newB (gbt a)).b i = gD (z_stg_9 a) i) /\ z_stg_10 = z_stg_10 /\ (∀ (n :
 Int), false = false) /\ (∀ (n : Int), (newB (gbt a)).st n = (z_stg_6 a).st n) /\ ∀ (n : Int), (fdM (newB (gbt a)) n).length = (z_stg_11 a n).length /\ ∀ (i : Nat), i < (fdM (newB (gbt a)) n).length -> (gD (fdM (newB (gbt a))
 n) i).a0 = (z_stg_12 a n i).a0 /\ (gD (fdM (newB (gbt a)) n) i).a1 = (z_stg_12 a n i).a1 /\ (gD (fdM (newB (gbt a)) n) i).b0 = (z_stg_12 a n i).b0 /\ (gD (fdM (newB (gbt a)) n) i).b1 = (z_stg_12 a n i).b1
theorem vc_stg (a : GBt) : (V_stg a) = ((z_stg_1 a = a.g.length /\ (∀ (i : Nat), i < z_stg_1 a -> (z_stg_2 a i).st = (gD a.g i).st /\ (z_stg_2 a i).lo = (gD a.g i).lo /\ (z_stg_2 a i).hi = (gD a.g i).hi) /\ z_stg_4 a =
 a.b.length /\ (∀ (i : Nat), i < z_stg_4 a -> gD (z_stg_3 a) i = gD a.b i) /\ z_stg_1 a < (4611686018427387904 : Nat) /\ z_stg_4 a < (4611686018427387904 : Nat) /\ openE (z_stg_5 a) = (0 : Int)) /\ bif bif (0 : Int) == (0 :
 Int) then !inM a.t (0 : Int) (2000 : Int) else false then Int.ofNat (0 : Nat) = Int.ofNat (4 : Nat) /\ z_stg_13 a else Int.ofNat (0 : Nat) = Int.ofNat (0 : Nat) /\ z_stg_13 a) := by kernel_rfl
def V_stgA (a : GBt) : Prop := fnVC Try.prog A_stg F_staged (bodyOf F_staged) (xGBt a) (heapOf []) (C_stgA.val a) (C_stgA.keep a) [(0, 2032), (1, 2033)] []
abbrev z_stgA_0 (a : GBt) : List Gau := rng a.g.length λ (i : Nat) => gD a.g i
abbrev z_stgA_1 (a : GBt) : Nat := (z_stgA_0 a).length
abbrev z_stgA_2 (a : GBt) (i : Nat) : Gau := gD (z_stgA_0 a) i
abbrev z_stgA_3 (a : GBt) : List Int := rng a.b.length λ (i : Nat) => gD a.b i
abbrev z_stgA_4 (a : GBt) : Nat := (z_stgA_3 a).length
abbrev z_stgA_5 (a : GBt) : GB := GB.mk (z_stgA_0 a) (z_stgA_3 a)
abbrev z_stgA_6 (a : GBt) : Bk := newB (z_stgA_5 a)
abbrev z_stgA_7 (a : GBt) : List Gau := (z_stgA_6 a).g
abbrev z_stgA_8 (a : GBt) (i : Nat) : Gau := gD (z_stgA_7 a) i
abbrev z_stgA_9 (a : GBt) : List Int := (z_stgA_6 a).b
abbrev z_stgA_10 : Value := Value.slice none (0 : Nat) (0 : Nat)
abbrev z_stgA_11 (a : GBt) (n : Int) : List Ln := fdM (z_stgA_6 a) n
abbrev z_stgA_12 (a : GBt) (n : Int) (i : Nat) : Ln := gD (z_stgA_11 a n) i
abbrev z_stgA_13 (a : GBt) : Prop := (newB (gbt a)).g.length = (z_stgA_7 a).length /\ (∀ (i : Nat), i < (newB (gbt a)).g.length -> (gD (newB (gbt a)).g i).st = (z_stgA_8 a i).st /\ (gD (newB (gbt a)).g i).lo = (z_stgA_8 a
 i).lo /\ (gD (newB (gbt a)).g i).hi = (z_stgA_8 a i).hi) /\ (newB (gbt a)).b.length = (z_stgA_9 a).length /\ (∀ (i : Nat), i < (newB (gbt a)).b.length -> gD (newB (gbt a)).b i = gD (z_stgA_9 a) i) /\ z_stgA_10 = z_stgA_10 /\
 (∀ (n : Int), false = false) /\ (∀ (n : Int), (newB (gbt a)).st n = (z_stgA_6 a).st n) /\ ∀ (n : Int), (fdM (newB (gbt a)) n).length = (z_stgA_11 a n).length /\ ∀ (i : Nat), i < (fdM (newB (gbt a)) n).length -> (gD (fdM
 (newB (gbt a)) n) i).a0 = (z_stgA_12 a n i).a0 /\ (gD (fdM (newB (gbt a)) n) i).a1 = (z_stgA_12 a n i).a1 /\ (gD (fdM (newB (gbt a)) n) i).b0 = (z_stgA_12 a n i).b0 /\ (gD (fdM (newB (gbt a)) n) i).b1 = (z_stgA_12 a n i).b1
theorem vc_stgA (a : GBt) : (V_stgA a) = ((z_stgA_1 a = a.g.length /\ (∀ (i : Nat), i < z_stgA_1 a -> (z_stgA_2 a i).st = (gD a.g i).st /\ (z_stgA_2 a i).lo = (gD a.g i).lo /\ (z_stgA_2 a i).hi = (gD a.g i).hi) /\ z_stgA_4 a
 = a.b.length /\ (∀ (i : Nat), i < z_stgA_4 a -> gD (z_stgA_3 a) i = gD a.b i) /\ z_stgA_1 a < (4611686018427387904 : Nat) /\ z_stgA_4 a < (4611686018427387904 : Nat) /\ openE (z_stgA_5 a) = (0 : Int)) /\ bif bif (0 : Int) ==
 (0 : Int) then !inM a.t (0 : Int) (2000 : Int) else false then Int.ofNat (4 : Nat) = Int.ofNat (4 : Nat) /\ z_stgA_13 a else Int.ofNat (4 : Nat) = Int.ofNat (0 : Nat) /\ z_stgA_13 a) := by kernel_rfl
def V_stgX (a : GBt) : Prop := fnVC Try.prog A_stgX F_staged (bodyOf F_staged) (xGBt a) (heapOf []) (C_stgX.val a) [] [] []
theorem vc_stgX (a : GBt) : (V_stgX a) = (((rng a.g.length λ (i : Nat) => gD a.g i).length = a.g.length /\ (∀ (i : Nat), i < (rng a.g.length λ (i : Nat) => gD a.g i).length -> (gD (rng a.g.length λ (i : Nat) => gD
 a.g i) i).st = (gD a.g i).st /\ (gD (rng a.g.length λ (i : Nat) => gD a.g i) i).lo = (gD a.g i).lo /\ (gD (rng a.g.length λ (i : Nat) => gD a.g i) i).hi = (gD a.g i).hi) /\ (rng a.b.length λ (i : Nat) => gD a.b
 i).length = a.b.length /\ (∀ (i : Nat), i < (rng a.b.length λ (i : Nat) => gD a.b i).length -> gD (rng a.b.length λ (i : Nat) => gD a.b i) i = gD a.b i) /\ (rng a.g.length λ (i : Nat) => gD a.g i).length <
 4611686018427387904 /\ (rng a.b.length λ (i : Nat) => gD a.b i).length < 4611686018427387904 /\ openE (GB.mk (rng a.g.length λ (i : Nat) => gD a.g i) (rng a.b.length λ (i : Nat) => gD a.b i)) ≠ 0) /\ bif bif openE
 (GB.mk (rng a.g.length λ (i : Nat) => gD a.g i) (rng a.b.length λ (i : Nat) => gD a.b i)) == 0 then !inM a.t 0 2000 else false then Value.pointer none = Value.pointer none /\ openE (gbt a) = 4 else Value.pointer none
 = Value.pointer none /\ openE (gbt a) = openE (GB.mk (rng a.g.length λ (i : Nat) => gD a.g i) (rng a.b.length λ (i : Nat) => gD a.b i))) := by kernel_rfl
theorem ok_stg : SpecOk Try.prog n_staged (C_stg.spec dGBt) := okC C_stg (λ _ => A_stg) [(0, 2032), (1, 2033)] [] fn_staged (λ _ => by kernel_rfl) (λ _ => gok_cons ok_open (gok_cons ok_in gok_nil)) (λ (a : GBt) h => by
 show V_stg a; rw [vc_stg]; delta z_stg_0 z_stg_1 z_stg_2 z_stg_3 z_stg_4 z_stg_5 z_stg_6 z_stg_7 z_stg_8 z_stg_9 z_stg_10 z_stg_11 z_stg_12 z_stg_13; simp only [condP, eq_self, implies_true, and_self, true_and, and_true, true_implies, forall_const, decide_eq_true_eq, decide_eq_false_iff_not, Int.toNat_natCast, dSpan_eSpan, dInt_eInt, dGau_e, dPt_e, dLn_e, dRt_e, Nat.zero_add, Int.zero_sub, Nat.le_eq, Nat.succ_eq_add_one, Nat.add_one_le_iff, Bool.not_eq_true', Bool.not_eq_false', rng_length, dSpan_mk, rng_getD, show GB.mk a.g a.b = gbt a from rfl]
 obtain ⟨⟨h1, h2⟩, h3, h4⟩ : preT a /\ openE (gbt a) = 0 /\ inT a = true := h
 unfold inT at h4
 refine ⟨⟨h1, h2, h3⟩, λ h => ?_⟩
 rw [show (!inM a.t 0 2000) = false by rw [h4]; rfl] at h; cases h) (λ _ => noI rfl rfl) _
theorem ok_stgA : SpecOk Try.prog n_staged (C_stgA.spec dGBt) := okC C_stgA (λ _ => A_stg) [(0, 2032), (1, 2033)] [] fn_staged (λ _ => by kernel_rfl) (λ _ => gok_cons ok_open (gok_cons ok_in gok_nil)) (λ (a : GBt) h => by
 show V_stgA a; rw [vc_stgA]; delta z_stgA_0 z_stgA_1 z_stgA_2 z_stgA_3 z_stgA_4 z_stgA_5 z_stgA_6 z_stgA_7 z_stgA_8 z_stgA_9 z_stgA_10 z_stgA_11 z_stgA_12 z_stgA_13; simp only [condP, eq_self, implies_true, and_self, true_and, and_true, true_implies, forall_const, decide_eq_true_eq, decide_eq_false_iff_not, Int.toNat_natCast, dSpan_eSpan, dInt_eInt, dGau_e, dPt_e, dLn_e, dRt_e, Nat.zero_add, Int.zero_sub, Nat.le_eq, Nat.succ_eq_add_one, Nat.add_one_le_iff, Bool.not_eq_true', Bool.not_eq_false', rng_length, dSpan_mk, rng_getD, show GB.mk a.g a.b = gbt a from rfl]
 obtain ⟨⟨h1, h2⟩, h3, h4⟩ : preT a /\ openE (gbt a) = 0 /\ inT a = false := h
 unfold inT at h4
 refine ⟨⟨h1, h2, h3⟩, λ h => ?_⟩
 rw [show (!inM a.t 0 2000) = true by rw [h4]; rfl] at h; cases h) (λ _ => noI rfl rfl) _
theorem ok_stgX : SpecOk Try.prog n_staged (C_stgX.spec dGBt) := okC C_stgX (λ _ => A_stgX) [] [] fn_staged (λ _ => by kernel_rfl) (λ _ => gok_cons ok_openX (gok_cons ok_in gok_nil)) (λ (a : GBt) h => by
 show V_stgX a; rw [vc_stgX]; simp only [condP, eq_self, implies_true, and_self, true_and, and_true, true_implies, forall_const, decide_eq_true_eq, decide_eq_false_iff_not, Int.toNat_natCast, dSpan_eSpan, dInt_eInt, dGau_e, dPt_e, dLn_e, dRt_e, Nat.zero_add, Int.zero_sub, Nat.le_eq, Nat.succ_eq_add_one, Nat.add_one_le_iff, Bool.not_eq_true', Bool.not_eq_false', rng_length, dSpan_mk, rng_getD]
 obtain ⟨⟨h1, h2⟩, h3⟩ : preT a /\ openE (gbt a) ≠ 0 := h
 refine ⟨⟨h1, h2, h3⟩, λ h => ?_, λ _ => rfl⟩
 have h3 : openE (GB.mk a.g a.b) ≠ 0 := h3
 rw [show (openE (GB.mk a.g a.b) == 0) = false by simpa using h3] at h; cases h) (λ _ => noI rfl rfl) _
def bkT (a : GBt) : BkT := ⟨newB (gbt a), a.t⟩
def flowE (a : GBt) : Int := bif openE (gbt a) == 0 then (bif inT a then (bif decide ((lB (bkT a)).length = 0) then 6 else 0) else 4) else openE (gbt a)
def flowB (a : GBt) : Bnd := bif flowE a == 0 then bndM (lB (bkT a)) a.t else default
def C_Flow : Ctr := { α := GBt, xs := xGBt, L := λ _ => [], val := λ a => .tup [.d (eBnd (flowB a)), .int (flowE a)], keep := λ _ => [], pre := λ a => [preT a /\ True] }
def A_FlowG : Ann := ann 33 [(n_staged, C_stg.spec dGBt), (n_bounds, C_bnd.spec dBkt)]
def A_FlowA : Ann := ann 33 [(n_staged, C_stgA.spec dGBt), (n_bounds, C_bnd.spec dBkt)]
def A_FlowX : Ann := { ann 33 [(n_staged, C_stgX.spec dGBt), (n_bounds, C_bnd.spec dBkt)] with cut := λ id => if id = 4 then some [] else none }
def V_FlowG (a : GBt) : Prop := fnVC Try.prog A_FlowG F_Flow (bodyOf F_Flow) (xGBt a) (heapOf []) (C_Flow.val a) [] [] []
abbrev z_FlowG_0 (a : GBt) : List Gau := rng a.g.length λ (i : Nat) => gD a.g i
abbrev z_FlowG_1 (a : GBt) : Nat := (z_FlowG_0 a).length
abbrev z_FlowG_2 (a : GBt) (i : Nat) : Gau := gD (z_FlowG_0 a) i
abbrev z_FlowG_3 (a : GBt) : List Int := rng a.b.length λ (i : Nat) => gD a.b i
abbrev z_FlowG_4 (a : GBt) : Nat := (z_FlowG_3 a).length
abbrev z_FlowG_5 (a : GBt) : GBt := GBt.mk (z_FlowG_0 a) (z_FlowG_3 a) a.t
abbrev z_FlowG_6 (a : GBt) : GB := gbt (z_FlowG_5 a)
abbrev z_FlowG_7 (a : GBt) : Bk := newB (z_FlowG_6 a)
abbrev z_FlowG_8 (a : GBt) : List Gau := (z_FlowG_7 a).g
abbrev z_FlowG_9 (a : GBt) : Nat := (z_FlowG_8 a).length
abbrev z_FlowG_10 (a : GBt) (i : Nat) : Gau := gD (z_FlowG_8 a) i
abbrev z_FlowG_11 (a : GBt) : List Gau := rng (z_FlowG_9 a) λ (i : Nat) => z_FlowG_10 a i
abbrev z_FlowG_12 (a : GBt) : Nat := (z_FlowG_11 a).length
abbrev z_FlowG_13 (a : GBt) (i : Nat) : Gau := gD (z_FlowG_11 a) i
abbrev z_FlowG_14 (a : GBt) (i : Nat) : Int := (z_FlowG_10 a i).st
abbrev z_FlowG_15 (a : GBt) (i : Nat) : Int := (z_FlowG_10 a i).lo
abbrev z_FlowG_16 (a : GBt) (i : Nat) : Int := (z_FlowG_10 a i).hi
abbrev z_FlowG_17 (a : GBt) : List Int := (z_FlowG_7 a).b
abbrev z_FlowG_18 (a : GBt) : Nat := (z_FlowG_17 a).length
abbrev z_FlowG_19 (a : GBt) (i : Nat) : Int := gD (z_FlowG_17 a) i
abbrev z_FlowG_20 (a : GBt) : List Int := rng (z_FlowG_18 a) λ (i : Nat) => z_FlowG_19 a i
abbrev z_FlowG_21 (a : GBt) : Nat := (z_FlowG_20 a).length
abbrev z_FlowG_22 : Value := Value.slice none 0 0
abbrev z_FlowG_23 (a : GBt) (n : Int) : Int := (z_FlowG_7 a).st n
abbrev z_FlowG_24 (a : GBt) : Bk := Bk.mk (z_FlowG_11 a) (z_FlowG_20 a) (z_FlowG_7 a).has (z_FlowG_7 a).st
abbrev z_FlowG_25 (a : GBt) (n : Int) : List Ln := fdM (z_FlowG_24 a) n
abbrev z_FlowG_26 (a : GBt) (n : Int) : Nat := (z_FlowG_25 a n).length
abbrev z_FlowG_27 (a : GBt) (n : Int) : List Ln := fdM (z_FlowG_7 a) n
abbrev z_FlowG_28 (a : GBt) (n : Int) (i : Nat) : Ln := gD (z_FlowG_25 a n) i
abbrev z_FlowG_29 (a : GBt) (n : Int) (i : Nat) : Ln := gD (z_FlowG_27 a n) i
abbrev z_FlowG_30 (a : GBt) : BkT := BkT.mk (z_FlowG_24 a) a.t
abbrev z_FlowG_31 (a : GBt) : Bk := upB (z_FlowG_24 a) (kB (z_FlowG_30 a))
abbrev z_FlowG_32 (a : GBt) : List Gau := (z_FlowG_31 a).g
abbrev z_FlowG_33 (a : GBt) (i : Nat) : Gau := gD (z_FlowG_32 a) i
abbrev z_FlowG_34 (a : GBt) : List Int := (z_FlowG_31 a).b
abbrev z_FlowG_35 (a : GBt) : List Ln := lB (z_FlowG_30 a)
abbrev z_FlowG_36 (a : GBt) : Bnd := bndM (z_FlowG_35 a) a.t
abbrev z_FlowG_37 (a : GBt) : Rt := (z_FlowG_36 a).lo
abbrev z_FlowG_38 (a : GBt) : Rt := (z_FlowG_36 a).hi
theorem vc_FlowG (a : GBt) : (V_FlowG a) = ((z_FlowG_1 a = a.g.length /\ (∀ (i : Nat), i < z_FlowG_1 a -> (z_FlowG_2 a i).st = (gD a.g i).st /\ (z_FlowG_2 a i).lo = (gD a.g i).lo /\ (z_FlowG_2 a i).hi = (gD a.g i).hi) /\
 z_FlowG_4 a = a.b.length /\ (∀ (i : Nat), i < z_FlowG_4 a -> gD (z_FlowG_3 a) i = gD a.b i) /\ a.t = a.t /\ (z_FlowG_1 a < 4611686018427387904 /\ z_FlowG_4 a < 4611686018427387904) /\ openE (z_FlowG_6 a) = 0 /\ inT (z_FlowG_5
 a) = true) /\ (a.t = a.t /\ z_FlowG_12 a = z_FlowG_9 a /\ (∀ (i : Nat), i < z_FlowG_12 a -> (z_FlowG_13 a i).st = z_FlowG_14 a i /\ (z_FlowG_13 a i).lo = z_FlowG_15 a i /\ (z_FlowG_13 a i).hi = z_FlowG_16 a i) /\ z_FlowG_21 a =
 z_FlowG_18 a /\ (∀ (i : Nat), i < z_FlowG_21 a -> gD (z_FlowG_20 a) i = z_FlowG_19 a i) /\ z_FlowG_22 = z_FlowG_22 /\ (∀ (n : Int), false = false) /\ (∀ (n : Int), z_FlowG_23 a n = z_FlowG_23 a n) /\ (∀ (n : Int), z_FlowG_26 a
 n = (z_FlowG_27 a n).length /\ ∀ (i : Nat), i < z_FlowG_26 a n -> (z_FlowG_28 a n i).a0 = (z_FlowG_29 a n i).a0 /\ (z_FlowG_28 a n i).a1 = (z_FlowG_29 a n i).a1 /\ (z_FlowG_28 a n i).b0 = (z_FlowG_29 a n i).b0 /\ (z_FlowG_28
 a n i).b1 = (z_FlowG_29 a n i).b1) /\ z_FlowG_9 a = (z_FlowG_32 a).length /\ (∀ (i : Nat), i < z_FlowG_9 a -> z_FlowG_14 a i = (z_FlowG_33 a i).st /\ z_FlowG_15 a i = (z_FlowG_33 a i).lo /\ z_FlowG_16 a i = (z_FlowG_33 a
 i).hi) /\ z_FlowG_18 a = (z_FlowG_34 a).length /\ (∀ (i : Nat), i < z_FlowG_18 a -> z_FlowG_19 a i = gD (z_FlowG_34 a) i) /\ (z_FlowG_12 a <= 24 /\ (∀ (x : Gau), List.Mem x (z_FlowG_11 a) -> 0 <= x.st /\ x.st <= 2000 /\ 0 <= x.lo /\
 x.lo <= x.hi /\ x.hi <= 200000) /\ z_FlowG_21 a <= 24 /\ List.Pairwise (λ (x1 x2 : Int) => x1 < x2) (z_FlowG_20 a) /\ ∀ (x : Int), List.Mem x (z_FlowG_20 a) -> 1 <= x /\ x <= 2000) /\ 0 <= a.t /\ a.t <= 2000) /\ bif !decide
 ((z_FlowG_35 a).length ≠ 0) then (flowB a).lo.n = 0 /\ (flowB a).lo.d = 0 /\ (flowB a).hi.n = 0 /\ (flowB a).hi.d = 0 /\ flowE a = 6 else (flowB a).lo.n = (z_FlowG_37 a).n /\ (flowB a).lo.d = (z_FlowG_37 a).d /\ (flowB a).hi.n
 = (z_FlowG_38 a).n /\ (flowB a).hi.d = (z_FlowG_38 a).d /\ flowE a = 0) := by kernel_rfl
def V_FlowA (a : GBt) : Prop := fnVC Try.prog A_FlowA F_Flow (bodyOf F_Flow) (xGBt a) (heapOf []) (C_Flow.val a) [] [] []
theorem vc_FlowA (a : GBt) : (V_FlowA a) = (((rng a.g.length λ (i : Nat) => gD a.g i).length = a.g.length /\ (∀ (i : Nat), i < (rng a.g.length λ (i : Nat) => gD a.g i).length -> (gD (rng a.g.length λ (i : Nat) => gD
 a.g i) i).st = (gD a.g i).st /\ (gD (rng a.g.length λ (i : Nat) => gD a.g i) i).lo = (gD a.g i).lo /\ (gD (rng a.g.length λ (i : Nat) => gD a.g i) i).hi = (gD a.g i).hi) /\ (rng a.b.length λ (i : Nat) => gD a.b
 i).length = a.b.length /\ (∀ (i : Nat), i < (rng a.b.length λ (i : Nat) => gD a.b i).length -> gD (rng a.b.length λ (i : Nat) => gD a.b i) i = gD a.b i) /\ a.t = a.t /\ ((rng a.g.length λ (i : Nat) => gD a.g i).length
 < 4611686018427387904 /\ (rng a.b.length λ (i : Nat) => gD a.b i).length < 4611686018427387904) /\ openE (gbt (GBt.mk (rng a.g.length λ (i : Nat) => gD a.g i) (rng a.b.length λ (i : Nat) => gD a.b i) a.t)) = 0 /\ inT
 (GBt.mk (rng a.g.length λ (i : Nat) => gD a.g i) (rng a.b.length λ (i : Nat) => gD a.b i) a.t) = false) /\ (flowB a).lo.n = 0 /\ (flowB a).lo.d = 0 /\ (flowB a).hi.n = 0 /\ (flowB a).hi.d = 0 /\ flowE a = 4) := by
 kernel_rfl
def V_FlowX (a : GBt) : Prop := fnVC Try.prog A_FlowX F_Flow (bodyOf F_Flow) (xGBt a) (heapOf []) (C_Flow.val a) [] [] []
theorem vc_FlowX (a : GBt) : (V_FlowX a) = (((rng a.g.length λ (i : Nat) => gD a.g i).length = a.g.length /\ (∀ (i : Nat), i < (rng a.g.length λ (i : Nat) => gD a.g i).length -> (gD (rng a.g.length λ (i : Nat) => gD
 a.g i) i).st = (gD a.g i).st /\ (gD (rng a.g.length λ (i : Nat) => gD a.g i) i).lo = (gD a.g i).lo /\ (gD (rng a.g.length λ (i : Nat) => gD a.g i) i).hi = (gD a.g i).hi) /\ (rng a.b.length λ (i : Nat) => gD a.b
 i).length = a.b.length /\ (∀ (i : Nat), i < (rng a.b.length λ (i : Nat) => gD a.b i).length -> gD (rng a.b.length λ (i : Nat) => gD a.b i) i = gD a.b i) /\ a.t = a.t /\ ((rng a.g.length λ (i : Nat) => gD a.g i).length
 < 4611686018427387904 /\ (rng a.b.length λ (i : Nat) => gD a.b i).length < 4611686018427387904) /\ openE (gbt (GBt.mk (rng a.g.length λ (i : Nat) => gD a.g i) (rng a.b.length λ (i : Nat) => gD a.b i) a.t)) ≠ 0) /\
 (bif openE (gbt (GBt.mk (rng a.g.length λ (i : Nat) => gD a.g i) (rng a.b.length λ (i : Nat) => gD a.b i) a.t)) != 0 then (flowB a).lo.n = 0 /\ (flowB a).lo.d = 0 /\ (flowB a).hi.n = 0 /\ (flowB a).hi.d = 0 /\ flowE a =
 openE (gbt (GBt.mk (rng a.g.length λ (i : Nat) => gD a.g i) (rng a.b.length λ (i : Nat) => gD a.b i) a.t)) else False) /\ True) := by kernel_rfl
theorem brk_ok : ∀ (l : List Int) (x : Int), 0 <= x /\ x <= 2000 -> brk x l = 0 -> l.Pairwise (· < ·) /\ ∀ y ∈ l, x < y /\ y <= 2000
 | [], _, _, _ => ⟨.nil, by simp⟩
 | z :: l, x, hx, h => by
  unfold brk at h
  cases hi : inM z (wr (x + 1)) 2000 with
  | false => rw [hi] at h; cases h
  | true =>
   rw [hi] at h
   unfold wr inM at hi
   rw [w64 (n := x + 1) (by omega) (by omega)] at hi
   simp only [Bool.and_eq_true, decide_eq_true_eq] at hi
   obtain ⟨h1, h2⟩ := brk_ok l z (by omega) h
   refine ⟨List.pairwise_cons.2 ⟨λ y hy => (h2 y hy).1, h1⟩, λ y hy => ?_⟩
   rcases List.mem_cons.1 hy with rfl | hy
   ·exact ⟨by omega, by omega⟩
   ·have := h2 y hy; exact ⟨by omega, this.2⟩
theorem open_ok {a : GB} (h : openE a = 0) : bkOk a.g a.b := by
 unfold openE at h
 cases h1 : checkG a.g == 0 with
 | false => rw [h1] at h; rw [show checkG a.g = 0 from h] at h1; cases h1
 | true =>
  rw [h1] at h
  have h : checkBM a.b = 0 := h
  have h1 : checkG a.g = 0 := by simpa using h1
  unfold checkG at h1
  cases h2 : inM a.g.length 1 24 with
  | false => rw [h2] at h1; cases h1
  | true =>
   rw [h2] at h1
   cases h3 : a.g.all riG with
   | false => rw [h3] at h1; cases h1
   | true =>
    unfold inM at h2
    simp only [Bool.and_eq_true, decide_eq_true_eq] at h2
    unfold checkBM at h
    split at h
    ·cases h
    ·obtain ⟨h5, h6⟩ := brk_ok _ 0 (by omega) h
     refine ⟨by omega, λ x hx => ?_, by omega, h5, λ y hy => ⟨by have := h6 y hy; omega, (h6 y hy).2⟩⟩
     have := List.all_eq_true.1 h3 x hx
     unfold riG inM at this
     simp only [Bool.and_eq_true, decide_eq_true_eq] at this
     unfold okG; omega
theorem ok_Flow : SpecOk Try.prog n_Flow (C_Flow.spec dGBt) := Ctr.spec_ok (C := C_Flow) (λ (a : GBt) h => by
 have h : preT a := (show preT a /\ True from h).1
 by_cases hE : openE (gbt a) = 0
 ·cases hT : inT a with
  | true =>
   refine fnt (A := A_FlowG) (L := []) (keep := []) (ren := []) (fz := []) fn_Flow (by kernel_rfl) (gok_cons ok_stg (gok_cons ok_bnd gok_nil)) ?_
   show V_FlowG a; rw [vc_FlowG]; delta z_FlowG_0 z_FlowG_1 z_FlowG_2 z_FlowG_3 z_FlowG_4 z_FlowG_5 z_FlowG_6 z_FlowG_7 z_FlowG_8 z_FlowG_9 z_FlowG_10 z_FlowG_11 z_FlowG_12 z_FlowG_13 z_FlowG_14 z_FlowG_15 z_FlowG_16 z_FlowG_17 z_FlowG_18 z_FlowG_19 z_FlowG_20 z_FlowG_21 z_FlowG_22 z_FlowG_23 z_FlowG_24 z_FlowG_25 z_FlowG_26 z_FlowG_27 z_FlowG_28 z_FlowG_29 z_FlowG_30 z_FlowG_31 z_FlowG_32 z_FlowG_33 z_FlowG_34 z_FlowG_35 z_FlowG_36 z_FlowG_37 z_FlowG_38; simp only [condP, eq_self, implies_true, and_self, true_and, and_true, true_implies, forall_const, decide_eq_true_eq, decide_eq_false_iff_not, Int.toNat_natCast, dSpan_eSpan, dInt_eInt, dGau_e, dPt_e, dLn_e, dRt_e, Nat.zero_add, Int.zero_sub, Nat.le_eq, Nat.succ_eq_add_one, Nat.add_one_le_iff, Bool.not_eq_true', Bool.not_eq_false', rng_length, dSpan_mk, rng_getD, bk_eta, upB_eta, upB_g, upB_b, bkT_eta, show GBt.mk a.g a.b a.t = a from rfl, show BkT.mk (newB (gbt a)) a.t = bkT a from rfl]
   have hi : 0 <= a.t /\ a.t <= 2000 := by
    unfold inT inM at hT; simpa using hT
   have hb : bkOk (gbt a).g (gbt a).b := open_ok hE
   refine ⟨⟨h, hE, hT⟩, ⟨hb, hi⟩, λ hc => ?_, λ hc => ?_⟩
   ·have e : flowE a = 6 := by unfold flowE; rw [hE, hT, decide_eq_true (show (lB (bkT a)).length = 0 by omega)]; rfl
    have e2 : flowB a = default := by unfold flowB; rw [e]; rfl
    rw [e2]; exact ⟨rfl, rfl, rfl, rfl, e⟩
   ·have e : flowE a = 0 := by unfold flowE; rw [hE, hT, decide_eq_false hc]; rfl
    have e2 : flowB a = bndM (lB (bkT a)) a.t := by unfold flowB; rw [e]; rfl
    rw [e2]; exact ⟨rfl, rfl, rfl, rfl, e⟩
  | false =>
   refine fnt (A := A_FlowA) (L := []) (keep := []) (ren := []) (fz := []) fn_Flow (by kernel_rfl) (gok_cons ok_stgA (gok_cons ok_bnd gok_nil)) ?_
   show V_FlowA a; rw [vc_FlowA]; simp only [condP, eq_self, implies_true, and_self, true_and, and_true, true_implies, forall_const, decide_eq_true_eq, decide_eq_false_iff_not, Int.toNat_natCast, dSpan_eSpan, dInt_eInt, dGau_e, dPt_e, dLn_e, dRt_e, Nat.zero_add, Int.zero_sub, Nat.le_eq, Nat.succ_eq_add_one, Nat.add_one_le_iff, Bool.not_eq_true', Bool.not_eq_false', rng_length, dSpan_mk, rng_getD, show GBt.mk a.g a.b a.t = a from rfl]
   have e : flowE a = 4 := by unfold flowE; rw [hE, hT]; rfl
   have e2 : flowB a = default := by unfold flowB; rw [e]; rfl
   rw [e2]; exact ⟨⟨h, hE, hT⟩, rfl, rfl, rfl, rfl, e⟩
 ·refine fnt (A := A_FlowX) (L := []) (keep := []) (ren := []) (fz := []) fn_Flow (by kernel_rfl) (gok_cons ok_stgX (gok_cons ok_bnd gok_nil)) ?_
  show V_FlowX a; rw [vc_FlowX]; simp only [condP, eq_self, implies_true, and_self, true_and, and_true, true_implies, forall_const, decide_eq_true_eq, decide_eq_false_iff_not, Int.toNat_natCast, dSpan_eSpan, dInt_eInt, dGau_e, dPt_e, dLn_e, dRt_e, Nat.zero_add, Int.zero_sub, Nat.le_eq, Nat.succ_eq_add_one, Nat.add_one_le_iff, Bool.not_eq_true', Bool.not_eq_false', rng_length, dSpan_mk, rng_getD, show GBt.mk a.g a.b a.t = a from rfl]
  have e : flowE a = openE (gbt a) := by unfold flowE; rw [show (openE (gbt a) == 0) = false by simpa using hE]; rfl
  have e2 : flowB a = default := by unfold flowB; rw [e, show (openE (gbt a) == 0) = false by simpa using hE]; rfl
  rw [e2]; exact ⟨⟨h, hE⟩, λ _ => ⟨rfl, rfl, rfl, rfl, e⟩, λ hc => hE (by simpa using hc)⟩) _
end Go.Bal
