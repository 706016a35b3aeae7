/- Package rating: stages of a flow. -/
import Derived.Test.YtoihhodbkimedaaRatK
set_option linter.unusedVariables false
set_option linter.unusedSimpArgs false
namespace Go.Bal
open Go Go.Sym Go.Proofs
structure BnF where
 b : Bnd
 f : Rt
def dBnd : DVal -> Bnd
 | .agg [a, b, c, d] => ⟨⟨dInt a, dInt b⟩, ⟨dInt c, dInt d⟩⟩
 | _ => default
def dBnF : List AVal -> Heap -> Option (BnF × List (Nat × Nat) × List Nat)
 | [.d x, .bptr id _], H => match H id with
  | .live (.box [.d n, .d m]) => some (⟨dBnd x, ⟨dInt n, dInt m⟩⟩, [(100, id)], [])
  | _ => none
 | _, _ => none
def bxR (f : Rt) : AObj := .box [.int f.n, .int f.d]
def C_bnF (v : BnF -> Bool) : Ctr := { ro := [100], α := BnF, xs := λ a => [.d (eBnd a.b), .bptr 100 0], L := λ a => [(100, bxR a.f)], val := λ a => .bool (v a), keep := λ a => [(100, .live (bxR a.f))] }
def st1 (a : BnF) : Bool := decide (cmpR a.b.hi a.f < 0)
def st2 (a : BnF) : Bool := decide (cmpR a.b.lo a.f <= 0)
def A_bnF : Ann := { ann 9 [(n_compare, s_compare)] with E := [100] }
def V_st1 (a : BnF) : Prop := fnVC Try.prog A_bnF F_Stages1 (bodyOf F_Stages1) ((C_bnF st1).xs a) (heapOf ((C_bnF st1).L a)) ((C_bnF st1).val a) ((C_bnF st1).keep a) [] []
theorem vc_st1 (a : BnF) : (V_st1 a) = (st1 a = decide (cmpM (wr (a.b.hi.n * a.f.d)) (wr (a.f.n * a.b.hi.d)) < 0) /\ a.f.n = a.f.n /\ a.f.d = a.f.d) := by kernel_rfl
def V_st2 (a : BnF) : Prop := fnVC Try.prog A_bnF F_Stages2 (bodyOf F_Stages2) ((C_bnF st2).xs a) (heapOf ((C_bnF st2).L a)) ((C_bnF st2).val a) ((C_bnF st2).keep a) [] []
theorem vc_st2 (a : BnF) : (V_st2 a) = (st2 a = decide (cmpM (wr (a.b.lo.n * a.f.d)) (wr (a.f.n * a.b.lo.d)) <= 0) /\ a.f.n = a.f.n /\ a.f.d = a.f.d) := by kernel_rfl
theorem ok_st1 : SpecOk Try.prog n_Stages1 ((C_bnF st1).spec dBnF) := okC (C_bnF st1) (λ _ => A_bnF) [] [] fn_Stages1 (λ _ => by kernel_rfl) (λ _ => gok_cons ok_compare gok_nil) (λ (a : BnF) _ => by
 show V_st1 a; rw [vc_st1]; simp only [condP, eq_self, implies_true, and_self, true_and, and_true, true_implies, forall_const, decide_eq_true_eq, decide_eq_false_iff_not, Int.toNat_natCast, dSpan_eSpan, dInt_eInt, dGau_e, dPt_e, dLn_e, dRt_e, Nat.zero_add, Int.zero_sub, Nat.le_eq, Nat.succ_eq_add_one, Nat.add_one_le_iff, Bool.not_eq_true', Bool.not_eq_false', rng_length, dSpan_mk, rng_getD]; first | done | trivial | exact rfl | (refine ⟨rfl, ?_⟩; exact ⟨rfl, rfl⟩)) (λ _ => noI rfl rfl) _
theorem ok_st2 : SpecOk Try.prog n_Stages2 ((C_bnF st2).spec dBnF) := okC (C_bnF st2) (λ _ => A_bnF) [] [] fn_Stages2 (λ _ => by kernel_rfl) (λ _ => gok_cons ok_compare gok_nil) (λ (a : BnF) _ => by
 show V_st2 a; rw [vc_st2]; simp only [condP, eq_self, implies_true, and_self, true_and, and_true, true_implies, forall_const, decide_eq_true_eq, decide_eq_false_iff_not, Int.toNat_natCast, dSpan_eSpan, dInt_eInt, dGau_e, dPt_e, dLn_e, dRt_e, Nat.zero_add, Int.zero_sub, Nat.le_eq, Nat.succ_eq_add_one, Nat.add_one_le_iff, Bool.not_eq_true', Bool.not_eq_false', rng_length, dSpan_mk, rng_getD]; first | done | trivial | exact rfl | (refine ⟨rfl, ?_⟩; exact ⟨rfl, rfl⟩)) (λ _ => noI rfl rfl) _
def upL (pr : Int -> Bool) : Nat -> Int -> Int -> Int
 | 0, lo, _ => lo
 | n + 1, lo, hi => bif decide (lo < hi) then (bif pr (lo + (hi - lo + 1).tdiv 2) then upL pr n (lo + (hi - lo + 1).tdiv 2) hi else upL pr n lo (lo + (hi - lo + 1).tdiv 2 - 1)) else lo
structure UpI where
 w : Bk
 k : Int
 f : Rt
def dUpI (n : FuncId) : List AVal -> Heap -> Option (UpI × List (Nat × Nat) × List Nat)
 | [.bptr id _, .d k, .fn (.func g) [] [.bptr c _]], H => if g = n then match decBk H id, H c with
  | some (w, q), .live (.box [.d x, .d y]) => some (⟨w, dInt k, ⟨dInt x, dInt y⟩⟩, [(100, id), (101, q), (102, c)], [])
  | _, _ => none else none
 | _, _ => none
def upP (v : BnF -> Bool) (a : UpI) (t : Int) : Bool := v ⟨bndM (lB ⟨a.w, t⟩) t, a.f⟩
def upM (v : BnF -> Bool) (a : UpI) : Int := upL (upP v a) 3000 ((spanM a.w a.k).lo - 1) (spanM a.w a.k).hi
structure LH where
 lo : Int
 hi : Int
 deriving Inhabited
def upH (a : UpI) : List (Nat × HCell) := bkK a.w ++ [(102, .live (bxR a.f))]
def up3 (v : BnF -> Bool) (n : FuncId) (a : UpI) : Shape := { α := LH, dflt := default, T := λ x => ⟨[(0, .bptr 100 0), (2, .fn (.func n) [] [.bptr 102 0]), (8, .int x.lo), (9, .int x.hi)], upH a⟩, inv := λ x => (spanM a.w a.k).lo - 1 <= x.lo /\ x.lo <= x.hi /\ x.hi <= (spanM a.w a.k).hi /\ ∀ m : Nat, (x.hi - x.lo).toNat <= m -> upM v a = upL (upP v a) m x.lo x.hi, meas := λ x => (x.hi - x.lo).toNat }
def C_up (v : BnF -> Bool) (n : FuncId) : Ctr := { ro := [100, 101, 102], α := UpI, xs := λ a => [.bptr 100 0, .int a.k, .fn (.func n) [] [.bptr 102 0]], L := λ a => bkL a.w ++ [(102, bxR a.f)], val := λ a => .int (upM v a), keep := λ a => upH a, pre := λ a => [bkOk a.w.g a.w.b /\ 0 <= a.k /\ a.k <= a.w.b.length /\ a.w.has a.k = true] }
def A_up (v : BnF -> Bool) (n : FuncId) (f : Sym.Spec) (a : UpI) : Ann := { ann 44 [(n_span, C_span.spec dBkI), (n_bounds, C_bnd.spec dBkt), (n, f)] with E := [100, 101, 102], loops := λ id => if id = 3 then some [up3 v n a] else none }
def V_up1 (a : UpI) : Prop := fnVC Try.prog (A_up st1 n_Stages1 ((C_bnF st1).spec dBnF) a) F_upTo (bodyOf F_upTo) ((C_up st1 n_Stages1).xs a) (heapOf ((C_up st1 n_Stages1).L a)) ((C_up st1 n_Stages1).val a) ((C_up st1 n_Stages1).keep a) [] []
abbrev z_up1_0 (a : UpI) : List Gau := rng a.w.g.length λ (i : Nat) => gD a.w.g i
abbrev z_up1_1 (a : UpI) : Nat := (z_up1_0 a).length
abbrev z_up1_2 (a : UpI) : Prop := z_up1_1 a = a.w.g.length
abbrev z_up1_3 (a : UpI) (i : Nat) : Gau := gD (z_up1_0 a) i
abbrev z_up1_4 (a : UpI) (i : Nat) : Int := (z_up1_3 a i).st
abbrev z_up1_5 (a : UpI) (i : Nat) : Int := (z_up1_3 a i).lo
abbrev z_up1_6 (a : UpI) (i : Nat) : Int := (z_up1_3 a i).hi
abbrev z_up1_7 (a : UpI) : Prop := ∀ (i : Nat), i < z_up1_1 a -> z_up1_4 a i = (gD a.w.g i).st /\ z_up1_5 a i = (gD a.w.g i).lo /\ z_up1_6 a i = (gD a.w.g i).hi
abbrev z_up1_8 (a : UpI) : List Int := rng a.w.b.length λ (i : Nat) => gD a.w.b i
abbrev z_up1_9 (a : UpI) : Nat := (z_up1_8 a).length
abbrev z_up1_10 (a : UpI) : Prop := z_up1_9 a = a.w.b.length
abbrev z_up1_11 (a : UpI) (i : Nat) : Int := gD (z_up1_8 a) i
abbrev z_up1_12 (a : UpI) : Prop := ∀ (i : Nat), i < z_up1_9 a -> z_up1_11 a i = gD a.w.b i
abbrev z_up1_13 : Value := Value.slice none (0 : Nat) (0 : Nat)
abbrev z_up1_14 : Prop := z_up1_13 = z_up1_13
abbrev z_up1_15 (a : UpI) : Prop := ∀ (n : Int), a.w.has n = a.w.has n
abbrev z_up1_16 (a : UpI) : Prop := ∀ (n : Int), a.w.st n = a.w.st n
abbrev z_up1_17 (a : UpI) : Bk := Bk.mk (z_up1_0 a) (z_up1_8 a) a.w.has a.w.st
abbrev z_up1_18 (a : UpI) (n : Int) : List Ln := fdM (z_up1_17 a) n
abbrev z_up1_19 (a : UpI) (n : Int) : Nat := (z_up1_18 a n).length
abbrev z_up1_20 (a : UpI) (n : Int) (i : Nat) : Ln := gD (z_up1_18 a n) i
abbrev z_up1_21 (a : UpI) (n : Int) (i : Nat) : Int := (z_up1_20 a n i).a0
abbrev z_up1_22 (a : UpI) (n : Int) (i : Nat) : Int := (z_up1_20 a n i).a1
abbrev z_up1_23 (a : UpI) (n : Int) (i : Nat) : Int := (z_up1_20 a n i).b0
abbrev z_up1_24 (a : UpI) (n : Int) (i : Nat) : Int := (z_up1_20 a n i).b1
abbrev z_up1_25 (a : UpI) : Prop := ∀ (n : Int), z_up1_19 a n = (fdM a.w n).length /\ ∀ (i : Nat), i < z_up1_19 a n -> z_up1_21 a n i = (gD (fdM a.w n) i).a0 /\ z_up1_22 a n i = (gD (fdM a.w n) i).a1 /\ z_up1_23 a n i = (gD
 (fdM a.w n) i).b0 /\ z_up1_24 a n i = (gD (fdM a.w n) i).b1
abbrev z_up1_26 (i : Nat) (a : UpI) (n : Int) : Prop := i < (fdM a.w n).length
abbrev z_up1_27 (a : UpI) : Prop := z_up1_1 a <= (24 : Nat) /\ (∀ (x : Gau), List.Mem x (z_up1_0 a) -> (0 : Int) <= x.st /\ x.st <= (2000 : Int) /\ (0 : Int) <= x.lo /\ x.lo <= x.hi /\ x.hi <= (200000 : Int)) /\ z_up1_9 a <= (24 :
 Nat) /\ List.Pairwise (λ (x1 x2 : Int) => x1 < x2) (z_up1_8 a) /\ ∀ (x : Int), List.Mem x (z_up1_8 a) -> (1 : Int) <= x /\ x <= (2000 : Int)
abbrev z_up1_28 (a : UpI) : Span := spanM (z_up1_17 a) a.k
abbrev z_up1_29 (a : UpI) : Prop := a.w.g.length = a.w.g.length
abbrev z_up1_30 (a : UpI) : Prop := ∀ (i : Nat), i < a.w.g.length -> (gD a.w.g i).st = (gD a.w.g i).st /\ (gD a.w.g i).lo = (gD a.w.g i).lo /\ (gD a.w.g i).hi = (gD a.w.g i).hi
abbrev z_up1_31 (a : UpI) : Prop := a.w.b.length = a.w.b.length
abbrev z_up1_32 (a : UpI) : Prop := ∀ (i : Nat), i < a.w.b.length -> gD a.w.b i = gD a.w.b i
abbrev z_up1_33 (a : UpI) : Prop := a.f.n = a.f.n /\ a.f.d = a.f.d
abbrev z_up1_34 (a : UpI) : Prop := z_up1_29 a /\ z_up1_30 a /\ z_up1_31 a /\ z_up1_32 a /\ z_up1_14 /\ z_up1_15 a /\ z_up1_16 a /\ (∀ (n : Int), (fdM a.w n).length = (fdM a.w n).length /\ ∀ (i : Nat), z_up1_26 i a n -> (gD (fdM
 a.w n) i).a0 = (gD (fdM a.w n) i).a0 /\ (gD (fdM a.w n) i).a1 = (gD (fdM a.w n) i).a1 /\ (gD (fdM a.w n) i).b0 = (gD (fdM a.w n) i).b0 /\ (gD (fdM a.w n) i).b1 = (gD (fdM a.w n) i).b1) /\ z_up1_33 a
abbrev z_up1_35 (a : LH) : Int := a.hi - a.lo
abbrev z_up1_36 (a : LH) : Nat := (z_up1_35 a).toNat
abbrev z_up1_37 (a : UpI) (a1 : LH) : Prop := (spanM a.w a.k).lo - (1 : Int) <= a1.lo /\ a1.lo <= a1.hi /\ a1.hi <= (spanM a.w a.k).hi /\ ∀ (m : Nat), z_up1_36 a1 <= m -> upM st1 a = upL (upP st1 a) m a1.lo a1.hi
abbrev z_up1_38 (a : LH) : Int := IntKind.i64.wrap (a.lo + IntKind.i64.wrap ((IntKind.i64.wrap (IntKind.i64.wrap (z_up1_35 a) + (1 : Int))).tdiv (2 : Int)))
abbrev z_up1_39 (a : UpI) (a1 : LH) : BkT := BkT.mk (z_up1_17 a) (z_up1_38 a1)
abbrev z_up1_40 (a : UpI) (a1 : LH) : Bk := upB (z_up1_17 a) (kB (z_up1_39 a a1))
abbrev z_up1_41 (a : UpI) (a1 : LH) : List Gau := (z_up1_40 a a1).g
abbrev z_up1_42 (a : UpI) (a1 : LH) (i : Nat) : Gau := gD (z_up1_41 a a1) i
abbrev z_up1_43 (a : UpI) (a1 : LH) : List Int := (z_up1_40 a a1).b
abbrev z_up1_44 (a : UpI) (a1 : LH) : Bnd := bndM (lB (z_up1_39 a a1)) (z_up1_38 a1)
abbrev z_up1_45 (a : UpI) (a1 : LH) : Rt := (z_up1_44 a a1).lo
abbrev z_up1_46 (a : UpI) (a1 : LH) : Int := (z_up1_45 a a1).n
abbrev z_up1_47 (a : UpI) (a1 : LH) : Int := (z_up1_45 a a1).d
abbrev z_up1_48 (a : UpI) (a1 : LH) : Rt := (z_up1_44 a a1).hi
abbrev z_up1_49 (a : UpI) (a1 : LH) : Int := (z_up1_48 a a1).n
abbrev z_up1_50 (a : UpI) (a1 : LH) : Int := (z_up1_48 a a1).d
abbrev z_up1_51 (a : UpI) (a1 : LH) : Bnd := dBnd (DVal.agg [eInt (z_up1_46 a a1), eInt (z_up1_47 a a1), eInt (z_up1_49 a a1), eInt (z_up1_50 a a1)])
abbrev z_up1_52 (a : UpI) (a1 : LH) : Rt := (z_up1_51 a a1).lo
abbrev z_up1_53 (a : UpI) (a1 : LH) : Rt := (z_up1_51 a a1).hi
abbrev z_up1_54 (a : UpI) (a1 : LH) (n : Int) : List Ln := fdM (z_up1_40 a a1) n
abbrev z_up1_55 (a : UpI) (a1 : LH) (n : Int) (i : Nat) : Ln := gD (z_up1_54 a a1 n) i
abbrev z_up1_56 (a : UpI) (a1 : LH) : Prop := z_up1_29 a /\ z_up1_30 a /\ z_up1_31 a /\ z_up1_32 a /\ z_up1_14 /\ (∀ (n : Int), a.w.has n = (z_up1_40 a a1).has n) /\ (∀ (n : Int), a.w.st n = (z_up1_40 a a1).st n) /\ (∀ (n :
 Int), (fdM a.w n).length = (z_up1_54 a a1 n).length /\ ∀ (i : Nat), z_up1_26 i a n -> (gD (fdM a.w n) i).a0 = (z_up1_55 a a1 n i).a0 /\ (gD (fdM a.w n) i).a1 = (z_up1_55 a a1 n i).a1 /\ (gD (fdM a.w n) i).b0 = (z_up1_55 a a1
 n i).b0 /\ (gD (fdM a.w n) i).b1 = (z_up1_55 a a1 n i).b1) /\ z_up1_33 a
abbrev z_up1_57 (a : UpI) (a1 : LH) (a2 : LH) : Prop := z_up1_37 a a1 /\ z_up1_36 a1 < z_up1_36 a2
theorem vc_up1 (a : UpI) : (V_up1 a) = ((a.k = a.k /\ z_up1_2 a /\ z_up1_7 a /\ z_up1_10 a /\ z_up1_12 a /\ z_up1_14 /\ z_up1_15 a /\ z_up1_16 a /\ z_up1_25 a /\ a.w.g.length = z_up1_1 a /\ (∀ (i : Nat), i < a.w.g.length -> (gD
 a.w.g i).st = z_up1_4 a i /\ (gD a.w.g i).lo = z_up1_5 a i /\ (gD a.w.g i).hi = z_up1_6 a i) /\ a.w.b.length = z_up1_9 a /\ (∀ (i : Nat), i < a.w.b.length -> gD a.w.b i = z_up1_11 a i) /\ z_up1_14 /\ z_up1_15 a /\ z_up1_16 a /\
 (∀ (n : Int), (fdM a.w n).length = z_up1_19 a n /\ ∀ (i : Nat), z_up1_26 i a n -> (gD (fdM a.w n) i).a0 = z_up1_21 a n i /\ (gD (fdM a.w n) i).a1 = z_up1_22 a n i /\ (gD (fdM a.w n) i).b0 = z_up1_23 a n i /\ (gD (fdM a.w n)
 i).b1 = z_up1_24 a n i) /\ z_up1_27 a /\ (0 : Int) <= a.k /\ a.k <= (↑(z_up1_9 a) : Int)) /\ (∃ (a_1 : LH), (a_1.lo = IntKind.i64.wrap ((z_up1_28 a).lo - (1 : Int)) /\ a_1.hi = (z_up1_28 a).hi /\ z_up1_34 a) /\ z_up1_37 a a_1) /\
 ∀ (a_1 : LH), z_up1_37 a a_1 -> bif decide (a_1.lo < a_1.hi) then (Int.ofNat (2 : Nat) = Int.ofNat (0 : Nat) -> False) /\ (z_up1_38 a_1 = z_up1_38 a_1 /\ z_up1_2 a /\ z_up1_7 a /\ z_up1_10 a /\ z_up1_12 a /\ z_up1_14 /\ z_up1_15
 a /\ z_up1_16 a /\ z_up1_25 a /\ a.w.g.length = (z_up1_41 a a_1).length /\ (∀ (i : Nat), i < a.w.g.length -> (gD a.w.g i).st = (z_up1_42 a a_1 i).st /\ (gD a.w.g i).lo = (z_up1_42 a a_1 i).lo /\ (gD a.w.g i).hi = (z_up1_42 a
 a_1 i).hi) /\ a.w.b.length = (z_up1_43 a a_1).length /\ (∀ (i : Nat), i < a.w.b.length -> gD a.w.b i = gD (z_up1_43 a a_1) i) /\ z_up1_27 a /\ (0 : Int) <= z_up1_38 a_1 /\ z_up1_38 a_1 <= (2000 : Int)) /\ ((z_up1_52 a a_1).n =
 z_up1_46 a a_1 /\ (z_up1_52 a a_1).d = z_up1_47 a a_1 /\ (z_up1_53 a a_1).n = z_up1_49 a a_1 /\ (z_up1_53 a a_1).d = z_up1_50 a a_1 /\ a.f.n = a.f.n /\ a.f.d = a.f.d /\ z_up1_33 a) /\ bif st1 (BnF.mk (z_up1_51 a a_1) a.f) then
 ∃ (a_3 : LH), (a_3.lo = z_up1_38 a_1 /\ a_3.hi = a_1.hi /\ z_up1_56 a a_1) /\ z_up1_57 a a_3 a_1 else ∃ (a_3 : LH), (a_3.lo = a_1.lo /\ a_3.hi = IntKind.i64.wrap (z_up1_38 a_1 - (1 : Int)) /\ z_up1_56 a a_1) /\ z_up1_57 a a_3
 a_1 else upM st1 a = a_1.lo /\ z_up1_34 a) := by kernel_rfl
theorem dBnd_mk (a b c d : Int) : dBnd (.agg [eInt a, eInt b, eInt c, eInt d]) = ⟨⟨a, b⟩, ⟨c, d⟩⟩ := rfl
theorem mid_w {lo hi : Int} (h1 : -1 <= lo) (h2 : lo <= hi) (h3 : hi <= 2000) : IntKind.i64.wrap (lo + IntKind.i64.wrap ((IntKind.i64.wrap (IntKind.i64.wrap (hi - lo) + 1)).tdiv 2)) = lo + (hi - lo + 1).tdiv 2 := by
 have e : (hi - lo + 1).tdiv 2 = (hi - lo + 1) / 2 := Int.tdiv_eq_ediv_of_nonneg (by omega)
 rw [w64 (n := hi - lo) (by omega) (by omega), w64 (n := hi - lo + 1) (by omega) (by omega), e, w64 (n := (hi - lo + 1) / 2) (by omega) (by omega), w64 (by omega) (by omega)]
theorem span_ok {w : Bk} {k : Int} (h : bkOk w.g w.b) (h1 : 0 <= k) (h2 : k <= w.b.length) : 0 <= (spanM w k).lo /\ (spanM w k).lo <= (spanM w k).hi /\ (spanM w k).hi <= 2000 /\ ∀ m : Int, (spanM w k).lo <= m -> m <= (spanM w k).hi -> (leC w.b m : Int) = k := by
 obtain ⟨_, _, _, hasc, hbr⟩ := h
 obtain ⟨n, rfl⟩ := Int.eq_ofNat_of_zero_le h1
 have h2 : n <= w.b.length := Int.ofNat_le.1 h2
 have hb : ∀ i, i < w.b.length -> 1 <= gD w.b i /\ gD w.b i <= 2000 := λ i hi => hbr _ (gD_mem hi)
 have elo : (spanM w n).lo = if 0 < n then gD w.b (n - 1) else 0 := by
  show (bif decide ((n : Int) > 0) then gD w.b ((n : Int) - 1).toNat else 0) = _
  by_cases h0 : 0 < n
  ·rw [decide_eq_true (show (n : Int) > 0 by omega), if_pos h0, show ((n : Int) - 1).toNat = n - 1 by omega]; rfl
  ·rw [decide_eq_false (show ¬(n : Int) > 0 by omega), if_neg h0]; rfl
 have ehi : (spanM w n).hi = if n < w.b.length then gD w.b n - 1 else 2000 := by
  show (bif decide ((n : Int) < w.b.length) then wr (gD w.b (n : Int).toNat - 1) else 2000) = _
  by_cases h0 : n < w.b.length
  ·have := hb n h0
   rw [decide_eq_true (show (n : Int) < w.b.length by omega), if_pos h0, Int.toNat_natCast]
   unfold wr; rw [w64 (by omega) (by omega)]; rfl
  ·rw [decide_eq_false (show ¬(n : Int) < w.b.length by omega), if_neg h0]; rfl
 have h3 : 0 < n -> n < w.b.length -> gD w.b (n - 1) < gD w.b n := λ a b => asc_lt hasc (by omega) b
 refine ⟨?_, ?_, ?_, λ m hm hm2 => ?_⟩
 ·rw [elo]; split
  ·have := hb (n - 1) (by omega); omega
  ·omega
 ·rw [elo, ehi]; split <;> split
  ·have := h3 (by omega) (by omega); omega
  ·exact (hb (n - 1) (by omega)).2
  ·have := hb n (by omega); omega
  ·omega
 ·rw [ehi]; split
  ·have := hb n (by omega); omega
  ·omega
 ·congr 1
  refine count_at h2 (λ j hj => ?_) (λ j hj hj2 => ?_)
  ·rw [elo, if_pos (by omega)] at hm
   have : gD w.b j <= gD w.b (n - 1) := by
    by_cases e : j = n - 1
    ·rw [e]; exact Int.le_refl _
    ·exact Int.le_of_lt (asc_lt hasc (by omega) (by omega))
   exact decide_eq_true (by omega)
  ·rw [ehi, if_pos (by omega)] at hm2
   have : gD w.b n <= gD w.b j := by
    by_cases e : n = j
    ·rw [e]; exact Int.le_refl _
    ·exact Int.le_of_lt (asc_lt hasc (by omega) hj2)
   exact decide_eq_false (by omega)
theorem mid_in {lo hi : Int} (h : lo < hi) : lo < lo + (hi - lo + 1).tdiv 2 /\ lo + (hi - lo + 1).tdiv 2 <= hi := by
 rw [Int.tdiv_eq_ediv_of_nonneg (by omega)]; omega
theorem upL_fuel {pr : Int -> Bool} : ∀ (m n : Nat) (lo hi : Int), lo <= hi -> (hi - lo).toNat <= m -> (hi - lo).toNat <= n -> upL pr m lo hi = upL pr n lo hi
 | 0, 0, _, _, _, _, _ => rfl
 | 0, n + 1, lo, hi, h, h1, _ => by unfold upL; rw [decide_eq_false (show ¬lo < hi by omega)]; rfl
 | m + 1, 0, lo, hi, h, _, h1 => by unfold upL; rw [decide_eq_false (show ¬lo < hi by omega)]; rfl
 | m + 1, n + 1, lo, hi, h, h1, h2 => by
  unfold upL
  by_cases hl : lo < hi
  ·obtain ⟨h3, h4⟩ := mid_in hl
   rw [decide_eq_true hl]
   cases pr (lo + (hi - lo + 1).tdiv 2)
   ·exact upL_fuel m n _ _ (by omega) (by omega) (by omega)
   ·exact upL_fuel m n _ _ h4 (by omega) (by omega)
  ·rw [decide_eq_false hl]; rfl
theorem p_up1 (a : UpI) (h : bkOk a.w.g a.w.b) (hk : 0 <= a.k /\ a.k <= a.w.b.length) (hh : a.w.has a.k = true) : V_up1 a := by
 rw [vc_up1]; delta z_up1_0 z_up1_1 z_up1_2 z_up1_3 z_up1_4 z_up1_5 z_up1_6 z_up1_7 z_up1_8 z_up1_9 z_up1_10 z_up1_11 z_up1_12 z_up1_13 z_up1_14 z_up1_15 z_up1_16 z_up1_17 z_up1_18 z_up1_19 z_up1_20 z_up1_21 z_up1_22 z_up1_23 z_up1_24 z_up1_25 z_up1_26 z_up1_27 z_up1_28 z_up1_29 z_up1_30 z_up1_31 z_up1_32 z_up1_33 z_up1_34 z_up1_35 z_up1_36 z_up1_37 z_up1_38 z_up1_39 z_up1_40 z_up1_41 z_up1_42 z_up1_43 z_up1_44 z_up1_45 z_up1_46 z_up1_47 z_up1_48 z_up1_49 z_up1_50 z_up1_51 z_up1_52 z_up1_53 z_up1_54 z_up1_55 z_up1_56 z_up1_57; simp only [condP, eq_self, implies_true, and_self, true_and, and_true, true_implies, forall_const, decide_eq_true_eq, decide_eq_false_iff_not, Int.toNat_natCast, dSpan_eSpan, dInt_eInt, dGau_e, dPt_e, dLn_e, dRt_e, Nat.zero_add, Int.zero_sub, Nat.le_eq, Nat.succ_eq_add_one, Nat.add_one_le_iff, Bool.not_eq_true', Bool.not_eq_false', rng_length, dSpan_mk, rng_getD, bk_eta, upB_eta, upB_g, upB_b, bkT_eta, dBnd_mk, if_true]
 obtain ⟨s1, s2, s3, s4⟩ := span_ok h hk.1 hk.2
 refine ⟨⟨h, hk⟩, ⟨⟨(spanM a.w a.k).lo - 1, (spanM a.w a.k).hi⟩, ⟨(w64 (n := (spanM a.w a.k).lo - 1) (by omega) (by omega)).symm, rfl⟩, Int.le_refl _, (by omega : (spanM a.w a.k).lo - 1 <= (spanM a.w a.k).hi), Int.le_refl _, λ m hm => upL_fuel 3000 m ((spanM a.w a.k).lo - 1) (spanM a.w a.k).hi (by omega) (by omega) hm⟩, λ x ⟨i1, i2, i3, i4⟩ => ⟨λ hl => ?_, λ hl => ?_⟩⟩
 ·obtain ⟨m1, m2⟩ := mid_in hl
  simp only [mid_w (lo := x.lo) (hi := x.hi) (by omega) (by omega) (by omega), show ∀ t, kB ⟨a.w, t⟩ = (leC a.w.b t : Int) from λ _ => rfl, s4 _ (show (spanM a.w a.k).lo <= x.lo + (x.hi - x.lo + 1).tdiv 2 by omega) (by omega), upB_same hh, implies_true, and_true]
  obtain ⟨n, hn⟩ : ∃ n, (x.hi - x.lo).toNat = n + 1 := ⟨(x.hi - x.lo).toNat - 1, by omega⟩
  have key := i4 (n + 1) (by omega)
  unfold upL at key
  rw [decide_eq_true hl] at key
  generalize hM : x.lo + (x.hi - x.lo + 1).tdiv 2 = M at *
  refine ⟨by simp, ⟨h, by omega, by omega⟩, λ hp => ⟨⟨M, x.hi⟩, ⟨rfl, rfl⟩, ⟨(by omega : (spanM a.w a.k).lo - 1 <= M), m2, i3, λ m hm => ?_⟩, (by omega : (x.hi - M).toNat < (x.hi - x.lo).toNat)⟩, λ hp => ⟨⟨x.lo, M - 1⟩, ⟨rfl, (w64 (n := M - 1) (by omega) (by omega)).symm⟩, ⟨i1, (by omega : x.lo <= M - 1), (by omega : M - 1 <= (spanM a.w a.k).hi), λ m hm => ?_⟩, (by omega : (M - 1 - x.lo).toNat < (x.hi - x.lo).toNat)⟩⟩
  ·rw [key, show upP st1 a M = true from hp]
   exact upL_fuel n m M x.hi m2 (by omega) hm
  ·rw [key, show upP st1 a M = false from hp]
   exact upL_fuel n m x.lo (M - 1) (by omega) (by omega) hm
 ·rw [i4 0 (by omega)]; rfl
end Go.Bal
