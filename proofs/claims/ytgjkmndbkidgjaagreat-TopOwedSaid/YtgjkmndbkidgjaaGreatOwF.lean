/- TopOwed: every, of package notes. Printed by genow.py. -/
import Derived.Test.YtgjkmndbkidgjaaGreatOwI
set_option linter.unusedVariables false
set_option linter.unusedSimpArgs false
namespace Go.Bal.DL
theorem r0 (f : Nat -> Int) : (AJ 0 f).length = 0 := rfl
end Go.Bal.DL
namespace Go.Bal
open Go Go.Sym Go.Proofs
structure LE where
 l : List Wk
 e : Int
structure LIE where
 l : List Wk
 i : Int
 e : Int
structure LQ where
 l : List Wk
 i : Int
 deriving Inhabited
structure NE where
 m : Nat
 e : Int
structure GE where
 g : Nat -> Bool
 e : Int
def CC (m : Nat) : List Int := AJ m λ i => (i : Int)
def Wx (l : List Wk) (e : Int) : Bool := HO e 0 (wr (l.length - 1))
def xT (l : List Wk) (i e : Int) : Bool := Wx l e && e != i
def wS (H : Heap) (id : Nat) : Option Int := match H id with
 | .live (.box [.d x]) => some (CR x)
 | _ => none
def C_li1 : Ctr := { ro := [101], α := LE, xs := λ a => [.int a.e, .bptr 101 0], L := λ a => [(101, HY a.l)], val := λ a => .bool (Wx a.l a.e), keep := λ a => [(101, .live (HY a.l))] }
def AWE : List AVal -> Heap -> Option (LE × List (Nat × Nat) × List Nat)
 | [.d d, .bptr j _], H => match JC H j with
  | some l => some (⟨l, CR d⟩, [(101, j)], [])
  | none => none
 | _, _ => none
def AVP : Ann := { ann 9 [(xL, WB)] with E := [101] }
def AXC (a : LE) : Prop := BB Try.prog AVP Yg (AS Yg) (C_li1.xs a) (AK (C_li1.L a)) (C_li1.val a) (C_li1.keep a) [] []
theorem AZU (a : LE) : (AXC a) = (Wx a.l a.e = HO a.e 0 (IntKind.i64.wrap ((↑a.l.length : Int) - 1)) /\ a.l.length = a.l.length /\ ∀ (i : Nat), i < a.l.length -> (gD a.l i).of.length = (gD a.l i).of.length /\ (∀ (i_1
 : Nat), i_1 < (gD a.l i).of.length -> gD (gD a.l i).of i_1 = gD (gD a.l i).of i_1) /\ (gD a.l i).ba = (gD a.l i).ba /\ (gD a.l i).mi = (gD a.l i).mi) := by kernel_rfl
def C_r2 : Ctr := { ro := [101, 102], α := LIE, xs := λ a => [.int a.e, .bptr 101 0, .bptr 102 0], L := λ a => [(101, HY a.l), (102, .box [.int a.i])], val := λ a => .bool (xT a.l a.i a.e), keep := λ a => [(101, .live (HY a.l)), (102, .live (.box [.int a.i]))] }
def d_r2 : List AVal -> Heap -> Option (LIE × List (Nat × Nat) × List Nat)
 | [.d d, .bptr j _, .bptr k _], H => match JC H j, wS H k with
  | some l, some i => some (⟨l, i, CR d⟩, [(101, j), (102, k)], [])
  | _, _ => none
 | _, _ => none
def A_r2 : Ann := { ann 15 [(xL, WB)] with E := [101, 102] }
def V_r2 (a : LIE) : Prop := BB Try.prog A_r2 oA (AS oA) (C_r2.xs a) (AK (C_r2.L a)) (C_r2.val a) (C_r2.keep a) [] []
theorem BDP (a : LIE) : (V_r2 a) = ((xT a.l a.i a.e = bif HO a.e 0 (IntKind.i64.wrap ((↑a.l.length : Int) - 1)) then a.e != a.i else false) /\ a.l.length = a.l.length /\ (∀ (i : Nat), i < a.l.length -> (gD a.l
 i).of.length = (gD a.l i).of.length /\ (∀ (i_1 : Nat), i_1 < (gD a.l i).of.length -> gD (gD a.l i).of i_1 = gD (gD a.l i).of i_1) /\ (gD a.l i).ba = (gD a.l i).ba /\ (gD a.l i).mi = (gD a.l i).mi) /\ a.i = a.i) := by
 kernel_rfl
def thL (m : Nat) : List (Nat × AObj) := [(101, .box [.own 102 1 0 m]), (102, .row 1 m λ i => BM (i : Int))]
def thK (m : Nat) : List (Nat × HCell) := [(101, .live (.box [.own 102 1 0 m])), (102, .live (.row 1 m λ i => BM (i : Int)))]
def C_th : Ctr := { ro := [101, 102], α := NE, xs := λ a => [.int a.e, .bptr 101 0], L := λ a => thL a.m, val := λ a => .bool (CK (CC a.m) a.e), keep := λ a => thK a.m, pre := λ a => [a.m <= 30] }
def d_th : List AVal -> Heap -> Option (NE × List (Nat × Nat) × List Nat)
 | [.d d, .bptr j _], H => match H j with
  | .live (.box [.own r _ _ n]) => some (⟨n, CR d⟩, [(101, j), (102, r)], [])
  | _ => none
 | _, _ => none
def A_th : Ann := { ann 7 [(OO, rK)] with E := [101, 102] }
def V_th (a : NE) : Prop := BB Try.prog A_th ZH (AS ZH) (C_th.xs a) (AK (C_th.L a)) (C_th.val a) (C_th.keep a) [] []
theorem BEV (a : NE) : (V_th a) = ((0 = 0 /\ (AJ a.m λ (i : Nat) => (↑i : Int)).length = a.m /\ a.e = a.e /\ (AJ a.m λ (i : Nat) => (↑i : Int)).length = a.m /\ (∀ (i : Nat), i < (AJ a.m λ (i : Nat) => (↑i :
 Int)).length -> gD (AJ a.m λ (i : Nat) => (↑i : Int)) i = (↑i : Int)) /\ a.m = (AJ a.m λ (i : Nat) => (↑i : Int)).length /\ (∀ (i : Nat), i < a.m -> (↑i : Int) = gD (AJ a.m λ (i : Nat) => (↑i : Int)) i) /\ (AJ a.m
 λ (i : Nat) => (↑i : Int)).length.succ.le 4611686018427387904) /\ CK (CC a.m) a.e = CK (AJ a.m λ (i : Nat) => (↑i : Int)) a.e /\ 0 = 0 /\ a.m = a.m /\ a.m = a.m /\ ∀ (i : Nat), i < a.m -> (↑i : Int) = (↑i : Int)) :=
 by kernel_rfl
def C_th0 : Ctr := { ro := [101], α := Int, xs := λ e => [.int e, .bptr 101 0], L := λ _ => [(101, .box [.d QF])], val := λ _ => .bool false, keep := λ _ => [(101, .live (.box [.d QF]))] }
def AYG : List AVal -> Heap -> Option (Int × List (Nat × Nat) × List Nat)
 | [.d d, .bptr j _], H => match H j with
  | .live (.box [.d _]) => some (CR d, [(101, j)], [])
  | _ => none
 | _, _ => none
def AWD : Ann := { ann 7 [(OO, rK)] with E := [101] }
def AXW (e : Int) : Prop := BB Try.prog AWD ZH (AS ZH) (C_th0.xs e) (AK (C_th0.L e)) (C_th0.val e) (C_th0.keep e) [] []
theorem BBX (e : Int) : (AXW e) = ((0 = 0 /\ 0 = 0 /\ e = e /\ (Nat.succ 0).le 4611686018427387904) /\ false = false /\ 0 = 0 /\ ∀ (i : Nat), i < 0 -> false = false) := by kernel_rfl
def stR (g : Nat -> Bool) : AObj := .row 1 30 λ i => xG (g i)
def C_as1 : Ctr := { ro := [101], α := GE, xs := λ a => [.int a.e, .rptr 101 1 0 0], L := λ a => [(101, stR a.g)], val := λ a => .bool (a.g a.e.toNat), keep := λ a => [(101, .live (stR a.g))], pre := λ a => [0 <= a.e /\ a.e < 30] }
def AWI : List AVal -> Heap -> Option (GE × List (Nat × Nat) × List Nat)
 | [.d d, .rptr j _ _ _], H => match H j with
  | .live (.row _ _ g) => some (⟨λ i => ABC (g i), CR d⟩, [(101, j)], [])
  | _ => none
 | _, _ => none
def AXT : Ann := { ann 7 [] with E := [101] }
def AXJ (a : GE) : Prop := BB Try.prog AXT S3 (AS S3) (C_as1.xs a) (AK (C_as1.L a)) (C_as1.val a) (C_as1.keep a) [] []
theorem AZV (a : GE) : (AXJ a) = (((0 <= a.e /\ a.e < (↑30 : Int)) /\ a.e.toNat.succ.le 30) /\ a.g a.e.toNat = a.g a.e.toNat /\ 30 = 30 /\ ∀ (i : Nat), i < 30 -> a.g i = a.g i) := by kernel_rfl
def C_fu1 : Ctr := { ro := [101, 102, 103], α := LIE, xs := λ a => [.int a.e, .bptr 101 0, .bptr 102 0], L := λ a => [(101, .box [.bptr 103 0]), (102, .box [.int a.i]), (103, HY a.l)], val := λ a => .bool (CK (gD a.l a.i.toNat).of a.e), keep := λ a => [(101, .live (.box [.bptr 103 0])), (102, .live (.box [.int a.i])), (103, .live (HY a.l))], pre := λ a => [(0 <= a.i /\ a.i < a.l.length) /\ (gD a.l a.i.toNat).of.length <= 5] }
def AVM : List AVal -> Heap -> Option (LIE × List (Nat × Nat) × List Nat)
 | [.d d, .bptr j _, .bptr k _], H => match H j, wS H k with
  | .live (.box [.bptr w _]), some i => match JC H w with
   | some l => some (⟨l, i, CR d⟩, [(101, j), (102, k), (103, w)], [])
   | none => none
  | _, _ => none
 | _, _ => none
def AWZ : Ann := { ann 9 [(n_of, C_of.spec d_of)] with E := [101, 102, 103] }
def AYF (a : LIE) : Prop := BB Try.prog AWZ R8 (AS R8) (C_fu1.xs a) (AK (C_fu1.L a)) (C_fu1.val a) (C_fu1.keep a) [] []
theorem BBK (a : LIE) : (AYF a) = ((a.i = a.i /\ a.e = a.e /\ (AJ a.l.length λ (i : Nat) => BE (BK (gD a.l i))).length = a.l.length /\ (∀ (i : Nat), i < (AJ a.l.length λ (i : Nat) => BE (BK (gD a.l
 i))).length -> (gD (AJ a.l.length λ (i : Nat) => BE (BK (gD a.l i))) i).of.length = (gD a.l i).of.length /\ (∀ (i_1 : Nat), i_1 < (gD (AJ a.l.length λ (i : Nat) => BE (BK (gD a.l i))) i).of.length -> gD (gD (AJ
 a.l.length λ (i : Nat) => BE (BK (gD a.l i))) i).of i_1 = gD (gD a.l i).of i_1) /\ (gD (AJ a.l.length λ (i : Nat) => BE (BK (gD a.l i))) i).ba = (gD a.l i).ba /\ (gD (AJ a.l.length λ (i : Nat) => BE (BK (gD
 a.l i))) i).mi = (gD a.l i).mi) /\ a.l.length = (AJ a.l.length λ (i : Nat) => BE (BK (gD a.l i))).length /\ (∀ (i : Nat), i < a.l.length -> (gD a.l i).of.length = (gD (AJ a.l.length λ (i : Nat) => BE (BK (gD a.l
 i))) i).of.length /\ (∀ (i_1 : Nat), i_1 < (gD a.l i).of.length -> gD (gD a.l i).of i_1 = gD (gD (AJ a.l.length λ (i : Nat) => BE (BK (gD a.l i))) i).of i_1) /\ (gD a.l i).ba = (gD (AJ a.l.length λ (i : Nat) => BE
 (BK (gD a.l i))) i).ba /\ (gD a.l i).mi = (gD (AJ a.l.length λ (i : Nat) => BE (BK (gD a.l i))) i).mi) /\ (0 <= a.i /\ a.i < (↑(AJ a.l.length λ (i : Nat) => BE (BK (gD a.l i))).length : Int)) /\ (gD (AJ a.l.length
 λ (i : Nat) => BE (BK (gD a.l i))) a.i.toNat).of.length <= 5) /\ CK (gD a.l a.i.toNat).of a.e = CK (gD (AJ a.l.length λ (i : Nat) => BE (BK (gD a.l i))) a.i.toNat).of a.e /\ a.i = a.i /\ a.l.length = a.l.length
 /\ ∀ (i : Nat), i < a.l.length -> (gD a.l i).of.length = (gD a.l i).of.length /\ (∀ (i_1 : Nat), i_1 < (gD a.l i).of.length -> gD (gD a.l i).of i_1 = gD (gD a.l i).of i_1) /\ (gD a.l i).ba = (gD a.l i).ba /\ (gD a.l i).mi =
 (gD a.l i).mi) := by kernel_rfl
def KN (w : Wk) : Bool := decide (w.of.length <= 5)
def C_r1 : Ctr := { α := Wk, xs := λ w => [.d (BK w)], L := λ _ => [], val := λ w => .bool (KN w), keep := λ _ => [] }
def d_r1 : List AVal -> Heap -> Option (Wk × List (Nat × Nat) × List Nat)
 | [.d d], _ => some (BE d, [], [])
 | _, _ => none
def V_r1 (a : Wk) : Prop := BB Try.prog (ann 7 []) vB (AS vB) (C_r1.xs a) (AK (C_r1.L a)) (C_r1.val a) (C_r1.keep a) [] []
theorem BHH (a : Wk) : (V_r1 a) = (KN a = decide ((↑a.of.length : Int) <= 5)) := by kernel_rfl
theorem BAS : AR Try.prog Cy (C_li1.spec AWE) := EX C_li1 (λ _ => AVP) [] [] ADX (λ _ => by kernel_rfl) (λ _ => AH K7 AM) (λ (a : LE) _ => by
 show AXC a; rw [AZU]; simp only [BF, eq_self, implies_true, and_self, true_and, and_true, true_implies, forall_const, decide_eq_true_eq, decide_eq_false_iff_not, Int.toNat_natCast, dSpan_eSpan, dInt_eInt, AV, BH, BJ, BC, AZ, AX, AY, Nat.zero_add, Int.zero_sub, Nat.le_eq, Nat.succ_eq_add_one, Nat.add_one_le_iff, Bool.not_eq_true', Bool.not_eq_false', rng_length, AT, AP]; rfl) (λ _ => FK rfl rfl) _
theorem BIZ : AR Try.prog Tx (C_r2.spec d_r2) := EX C_r2 (λ _ => A_r2) [] [] AJZ (λ _ => by kernel_rfl) (λ _ => AH K7 AM) (λ (a : LIE) _ => by
 show V_r2 a; rw [BDP]; simp only [BF, eq_self, implies_true, and_self, true_and, and_true, true_implies, forall_const, decide_eq_true_eq, decide_eq_false_iff_not, Int.toNat_natCast, dSpan_eSpan, dInt_eInt, AV, BH, BJ, BC, AZ, AX, AY, Nat.zero_add, Int.zero_sub, Nat.le_eq, Nat.succ_eq_add_one, Nat.add_one_le_iff, Bool.not_eq_true', Bool.not_eq_false', rng_length, AT, AP]; unfold xT Wx wr; cases HO a.e 0 (IntKind.i64.wrap ((a.l.length : Int) - 1)) <;> simp) (λ _ => FK rfl rfl) _
theorem AXE : AR Try.prog GP (C_th.spec d_th) := EX C_th (λ _ => A_th) [] [] xR (λ _ => by kernel_rfl) (λ _ => AH RO AM) (λ (a : NE) h => by
 have h : a.m <= 30 := h
 show V_th a; rw [BEV]; simp only [BF, eq_self, implies_true, and_self, true_and, and_true, true_implies, forall_const, decide_eq_true_eq, decide_eq_false_iff_not, Int.toNat_natCast, dSpan_eSpan, dInt_eInt, AV, BH, BJ, BC, AZ, AX, AY, Nat.zero_add, Int.zero_sub, Nat.le_eq, Nat.succ_eq_add_one, Nat.add_one_le_iff, Bool.not_eq_true', Bool.not_eq_false', rng_length, AT, AP, CC]; exact ⟨λ i hi => by rw [FE _ _ _ hi], λ i hi => by rw [FE _ _ _ hi], by omega⟩) (λ _ => FK rfl rfl) _
theorem BAH : AR Try.prog GP (C_th0.spec AYG) := EX C_th0 (λ _ => AWD) [] [] xR (λ _ => by kernel_rfl) (λ _ => AH RO AM) (λ (e : Int) _ => by
 show AXW e; rw [BBX]; exact ⟨⟨rfl, rfl, rfl, Nat.succ_le_of_lt (by decide)⟩, rfl, rfl, λ _ _ => rfl⟩) (λ _ => FK rfl rfl) _
theorem BBR : AR Try.prog kS (C_as1.spec AWI) := EX C_as1 (λ _ => AXT) [] [] AQA (λ _ => by kernel_rfl) (λ _ => AM) (λ (a : GE) h => by
 have h : 0 <= a.e /\ a.e < 30 := h
 show AXJ a; rw [AZV]; simp only [BF, eq_self, implies_true, and_self, true_and, and_true, true_implies, forall_const, decide_eq_true_eq, decide_eq_false_iff_not, Int.toNat_natCast, dSpan_eSpan, dInt_eInt, AV, BH, BJ, BC, AZ, AX, AY, Nat.zero_add, Int.zero_sub, Nat.le_eq, Nat.succ_eq_add_one, Nat.add_one_le_iff, Bool.not_eq_true', Bool.not_eq_false', rng_length, AT, AP]; exact ⟨h, by omega⟩) (λ _ => FK rfl rfl) _
theorem AYU : AR Try.prog mM (C_fu1.spec AVM) := EX C_fu1 (λ _ => AWZ) [] [] ALR (λ _ => by kernel_rfl) (λ _ => AH BIH AM) (λ (a : LIE) h => by
 obtain ⟨h1, h2⟩ : (0 <= a.i /\ a.i < a.l.length) /\ (gD a.l a.i.toNat).of.length <= 5 := h
 show AYF a; rw [BBK]; simp only [BF, eq_self, implies_true, and_self, true_and, and_true, true_implies, forall_const, decide_eq_true_eq, decide_eq_false_iff_not, Int.toNat_natCast, dSpan_eSpan, dInt_eInt, AV, BH, BJ, BC, AZ, AX, AY, Nat.zero_add, Int.zero_sub, Nat.le_eq, Nat.succ_eq_add_one, Nat.add_one_le_iff, Bool.not_eq_true', Bool.not_eq_false', rng_length, AT, AP]; exact ⟨h1, h2⟩) (λ _ => FK rfl rfl) _
theorem BIL : AR Try.prog Vr (C_r1.spec d_r1) := EX C_r1 (λ _ => ann 7 []) [] [] AKE (λ _ => by kernel_rfl) (λ _ => AM) (λ (a : Wk) _ => by
 show V_r1 a; rw [BHH]; unfold KN; rw [decide_eq_decide]; omega) (λ _ => FK rfl rfl) _
def LXKl (q : List Wk) : List (Nat × AObj) := [(101, HY q)]
def KXKl (q : List Wk) : List (Nat × HCell) := [(101, .live (HY q))]
def fvKl (q : List Wk) : AVal := .fn (.func Cy) [] [.bptr 101 0]
def BKl (q : List Wk) : AObj := .box [fvKl q]
structure EKl where
 q : List Wk
 e : Int
structure MKl where
 q : List Wk
 l : List Int
def C1Kl : Ctr := { ro := [100, 101], α := EKl, xs := λ a => [.d (BM a.e), .bptr 100 0], L := λ a => (100, BKl a.q) :: LXKl a.q, val := λ a => .bool (!Wx a.q a.e), keep := λ a => (100, .live (BKl a.q)) :: KXKl a.q, pre := λ a => [True] }
def d1Kl : List AVal -> Heap -> Option (EKl × List (Nat × Nat) × List Nat)
 | [.d d, .bptr id _], H => match H id with
  | .live (.box [.fn _ _ [.bptr j _]]) => match JC H j with
   | some q => some (⟨q, CR d⟩, [(100, id), (101, j)], [])
   | none => none
  | _ => none
 | _, _ => none
def A1Kl : Ann := { ann 8 [(Cy, C_li1.spec AWE)] with E := [100, 101] }
def V1Kl (a : EKl) : Prop := BB Try.prog A1Kl sR (AS sR) (C1Kl.xs a) (AK (C1Kl.L a)) (C1Kl.val a) (C1Kl.keep a) [] []
theorem BHW (a : EKl) : (V1Kl a) = ((a.e = a.e /\ (AJ a.q.length λ (i : Nat) => BE (BK (gD a.q i))).length = a.q.length /\ (∀ (i : Nat), i < (AJ a.q.length λ (i : Nat) => BE (BK (gD a.q i))).length -> (gD (AJ
 a.q.length λ (i : Nat) => BE (BK (gD a.q i))) i).of.length = (gD a.q i).of.length /\ (∀ (i_1 : Nat), i_1 < (gD (AJ a.q.length λ (i : Nat) => BE (BK (gD a.q i))) i).of.length -> gD (gD (AJ a.q.length λ (i : Nat)
 => BE (BK (gD a.q i))) i).of i_1 = gD (gD a.q i).of i_1) /\ (gD (AJ a.q.length λ (i : Nat) => BE (BK (gD a.q i))) i).ba = (gD a.q i).ba /\ (gD (AJ a.q.length λ (i : Nat) => BE (BK (gD a.q i))) i).mi = (gD a.q
 i).mi) /\ a.q.length = (AJ a.q.length λ (i : Nat) => BE (BK (gD a.q i))).length /\ ∀ (i : Nat), i < a.q.length -> (gD a.q i).of.length = (gD (AJ a.q.length λ (i : Nat) => BE (BK (gD a.q i))) i).of.length /\ (∀ (i_1
 : Nat), i_1 < (gD a.q i).of.length -> gD (gD a.q i).of i_1 = gD (gD (AJ a.q.length λ (i : Nat) => BE (BK (gD a.q i))) i).of i_1) /\ (gD a.q i).ba = (gD (AJ a.q.length λ (i : Nat) => BE (BK (gD a.q i))) i).ba /\
 (gD a.q i).mi = (gD (AJ a.q.length λ (i : Nat) => BE (BK (gD a.q i))) i).mi) /\ (!Wx a.q a.e) = !Wx (AJ a.q.length λ (i : Nat) => BE (BK (gD a.q i))) a.e /\ a.q.length = a.q.length /\ ∀ (i : Nat), i < a.q.length
 -> (gD a.q i).of.length = (gD a.q i).of.length /\ (∀ (i_1 : Nat), i_1 < (gD a.q i).of.length -> gD (gD a.q i).of i_1 = gD (gD a.q i).of i_1) /\ (gD a.q i).ba = (gD a.q i).ba /\ (gD a.q i).mi = (gD a.q i).mi) := by kernel_rfl
theorem BDX : AR Try.prog PN (C1Kl.spec d1Kl) := EX C1Kl (λ _ => A1Kl) [] [] ACF (λ _ => by kernel_rfl) (λ _ => AH BAS AM) (λ (a : EKl) h => by
 have h : True := h
 show V1Kl a; rw [BHW]; try simp [wr, AP, BC, AY, h]) (λ _ => FK rfl rfl) _
def d2Kl : List AVal -> Heap -> Option (MKl × List (Nat × Nat) × List Nat)
 | [y, .fn _ _ [.bptr id _]], H => match HK y H with
  | some (n, g, f) => match H id with
   | .live (.box [.fn _ _ [.bptr j _]]) => match JC H j with
    | some q => some (⟨q, AJ n λ i => CR (g i)⟩, [(100, id), (101, j)], f)
    | none => none
   | _ => none
  | none => none
 | _, _ => none
def A2Kl (a : MKl) : Ann := { ann 19 [(PN, C1Kl.spec d1Kl)] with E := [100, 101], loops := λ id => if id = 2 then some [{ α := Nat, dflt := 0, T := λ k => ⟨[(0, .d (AF a.l)), (1, .fn (.func PN) [] [.bptr 100 0]), (7, .int a.l.length), (8, .int k)], (100, .live (BKl a.q)) :: KXKl a.q⟩, inv := λ k => k <= a.l.length /\ BN (λ i => !Wx a.q (gD a.l i)) a.l.length 0 = BN (λ i => !Wx a.q (gD a.l i)) (a.l.length - k) k, meas := λ k => a.l.length - k }] else none }
def PKl (a : MKl) : List Prop := [a.l.length < 4611686018427387904 /\ True]
def C2Kl : Ctr := { ro := [100, 101], α := MKl, xs := λ a => [.d (AF a.l), .fn (.func PN) [] [.bptr 100 0]], L := λ a => (100, BKl a.q) :: LXKl a.q, val := λ a => .int (BN (λ i => !Wx a.q (gD a.l i)) a.l.length 0), keep := λ a => (100, .live (BKl a.q)) :: KXKl a.q, pre := PKl }
def V2Kl (a : MKl) : Prop := BB Try.prog (A2Kl a) IQ (AS IQ) (C2Kl.xs a) (AK (C2Kl.L a)) (C2Kl.val a) (C2Kl.keep a) [] []
theorem BDA (a : MKl) : (V2Kl a) = ((∃ (a_1 : Nat), (a.l.length = a.l.length /\ (∀ (i : Nat), i < a.l.length -> gD a.l i = gD a.l i) /\ (↑a.l.length : Int) = (↑a.l.length : Int) /\ (↑a_1 : Int) = 0 /\ a.q.length =
 a.q.length /\ ∀ (i : Nat), i < a.q.length -> (gD a.q i).of.length = (gD a.q i).of.length /\ (∀ (i_1 : Nat), i_1 < (gD a.q i).of.length -> gD (gD a.q i).of i_1 = gD (gD a.q i).of i_1) /\ (gD a.q i).ba = (gD a.q i).ba /\ (gD a.q
 i).mi = (gD a.q i).mi) /\ a_1 <= a.l.length /\ BN (λ (i : Nat) => !Wx a.q (gD a.l i)) a.l.length 0 = BN (λ (i : Nat) => !Wx a.q (gD a.l i)) (a.l.length - a_1) a_1) /\ ∀ (a_1 : Nat), a_1 <= a.l.length /\ BN (λ (i :
 Nat) => !Wx a.q (gD a.l i)) a.l.length 0 = BN (λ (i : Nat) => !Wx a.q (gD a.l i)) (a.l.length - a_1) a_1 -> bif decide ((↑a_1 : Int) < (↑a.l.length : Int)) then ((0 <= (↑a_1 : Int) /\ (↑a_1 : Int) < (↑a.l.length :
 Int)) /\ gD a.l a_1 = gD a.l a_1 /\ (AJ a.q.length λ (i : Nat) => BE (BK (gD a.q i))).length = a.q.length /\ (∀ (i : Nat), i < (AJ a.q.length λ (i : Nat) => BE (BK (gD a.q i))).length -> (gD (AJ a.q.length λ (i
 : Nat) => BE (BK (gD a.q i))) i).of.length = (gD a.q i).of.length /\ (∀ (i_1 : Nat), i_1 < (gD (AJ a.q.length λ (i : Nat) => BE (BK (gD a.q i))) i).of.length -> gD (gD (AJ a.q.length λ (i : Nat) => BE (BK (gD
 a.q i))) i).of i_1 = gD (gD a.q i).of i_1) /\ (gD (AJ a.q.length λ (i : Nat) => BE (BK (gD a.q i))) i).ba = (gD a.q i).ba /\ (gD (AJ a.q.length λ (i : Nat) => BE (BK (gD a.q i))) i).mi = (gD a.q i).mi) /\
 a.q.length = (AJ a.q.length λ (i : Nat) => BE (BK (gD a.q i))).length /\ (∀ (i : Nat), i < a.q.length -> (gD a.q i).of.length = (gD (AJ a.q.length λ (i : Nat) => BE (BK (gD a.q i))) i).of.length /\ (∀ (i_1 : Nat),
 i_1 < (gD a.q i).of.length -> gD (gD a.q i).of i_1 = gD (gD (AJ a.q.length λ (i : Nat) => BE (BK (gD a.q i))) i).of i_1) /\ (gD a.q i).ba = (gD (AJ a.q.length λ (i : Nat) => BE (BK (gD a.q i))) i).ba /\ (gD a.q
 i).mi = (gD (AJ a.q.length λ (i : Nat) => BE (BK (gD a.q i))) i).mi) /\ True) /\ bif !Wx (AJ a.q.length λ (i : Nat) => BE (BK (gD a.q i))) (gD a.l a_1) then BN (λ (i : Nat) => !Wx a.q (gD a.l i)) a.l.length
 0 = (↑a_1 : Int) /\ a.q.length = a.q.length /\ ∀ (i : Nat), i < a.q.length -> (gD a.q i).of.length = (gD a.q i).of.length /\ (∀ (i_1 : Nat), i_1 < (gD a.q i).of.length -> gD (gD a.q i).of i_1 = gD (gD a.q i).of i_1) /\ (gD a.q
 i).ba = (gD a.q i).ba /\ (gD a.q i).mi = (gD a.q i).mi else ∃ (a_3 : Nat), (a.l.length = a.l.length /\ (∀ (i : Nat), i < a.l.length -> gD a.l i = gD a.l i) /\ (↑a.l.length : Int) = (↑a.l.length : Int) /\ (↑a_3 : Int) =
 IntKind.i64.wrap ((↑a_1 : Int) + 1) /\ a.q.length = a.q.length /\ ∀ (i : Nat), i < a.q.length -> (gD a.q i).of.length = (gD a.q i).of.length /\ (∀ (i_1 : Nat), i_1 < (gD a.q i).of.length -> gD (gD a.q i).of i_1 = gD (gD a.q
 i).of i_1) /\ (gD a.q i).ba = (gD a.q i).ba /\ (gD a.q i).mi = (gD a.q i).mi) /\ (a_3 <= a.l.length /\ BN (λ (i : Nat) => !Wx a.q (gD a.l i)) a.l.length 0 = BN (λ (i : Nat) => !Wx a.q (gD a.l i)) (a.l.length - a_3)
 a_3) /\ a.l.length - a_3 < a.l.length - a_1 else BN (λ (i : Nat) => !Wx a.q (gD a.l i)) a.l.length 0 = -1 /\ a.q.length = a.q.length /\ ∀ (i : Nat), i < a.q.length -> (gD a.q i).of.length = (gD a.q i).of.length /\ (∀ (i_1
 : Nat), i_1 < (gD a.q i).of.length -> gD (gD a.q i).of i_1 = gD (gD a.q i).of i_1) /\ (gD a.q i).ba = (gD a.q i).ba /\ (gD a.q i).mi = (gD a.q i).mi) := by kernel_rfl
theorem p2Kl (a : MKl) (h : BG (PKl a)) : V2Kl a := by
 obtain ⟨h, hp⟩ : a.l.length < 4611686018427387904 /\ True := h
 rw [BDA]
 simp only [BF, eq_self, implies_true, and_self, true_and, and_true, true_implies, forall_const, decide_eq_true_eq, decide_eq_false_iff_not, Int.toNat_natCast, dSpan_eSpan, dInt_eInt, AV, BH, BJ, BC, AZ, AX, AY, Nat.zero_add, Int.zero_sub, Nat.le_eq, Nat.succ_eq_add_one, Nat.add_one_le_iff, Bool.not_eq_true', Bool.not_eq_false', rng_length, AT, AP]
 refine ⟨⟨0, rfl, Nat.zero_le _, rfl⟩, λ k ⟨h1, h2⟩ => ⟨λ hlt => ?_, λ hge => ?_⟩⟩
 ·have hlt : k < a.l.length := by omega
  refine ⟨⟨by omega, by omega⟩, λ hp => ?_, λ hp => ⟨k + 1, (CE (by omega)).symm, ⟨by omega, ?_⟩, by omega⟩⟩
  ·rw [h2]; exact DJ hlt (by simpa using hp)
  ·rw [h2]; exact FZ hlt (by simpa using hp)
 ·rw [h2]; exact EK (by omega)
theorem BCV : AR Try.prog JM (C2Kl.spec d2Kl) := EX C2Kl A2Kl [] [] WK (λ _ => by kernel_rfl) (λ _ => AH BDX AM) p2Kl (λ _ => FK rfl rfl) _
def C3Kl : Ctr := { C2Kl with val := λ (a : MKl) => .bool (decide (BN (λ i => !Wx a.q (gD a.l i)) a.l.length 0 >= 0)) }
def d3Kl : List AVal -> Heap -> Option (C3Kl.α × List (Nat × Nat) × List Nat) := d2Kl
def A3Kl : Ann := { ann 9 [(JM, C2Kl.spec d2Kl)] with E := [100, 101] }
def V3Kl (a : MKl) : Prop := BB Try.prog A3Kl IY (AS IY) (C3Kl.xs a) (AK (C3Kl.L a)) (C3Kl.val a) (C3Kl.keep a) [] []
theorem BIT (a : MKl) : (V3Kl a) = (((AJ a.l.length λ (i : Nat) => gD a.l i).length = a.l.length /\ (∀ (i : Nat), i < (AJ a.l.length λ (i : Nat) => gD a.l i).length -> gD (AJ a.l.length λ (i : Nat) => gD a.l i)
 i = gD a.l i) /\ (AJ a.q.length λ (i : Nat) => BE (BK (gD a.q i))).length = a.q.length /\ (∀ (i : Nat), i < (AJ a.q.length λ (i : Nat) => BE (BK (gD a.q i))).length -> (gD (AJ a.q.length λ (i : Nat) => BE (BK
 (gD a.q i))) i).of.length = (gD a.q i).of.length /\ (∀ (i_1 : Nat), i_1 < (gD (AJ a.q.length λ (i : Nat) => BE (BK (gD a.q i))) i).of.length -> gD (gD (AJ a.q.length λ (i : Nat) => BE (BK (gD a.q i))) i).of i_1 =
 gD (gD a.q i).of i_1) /\ (gD (AJ a.q.length λ (i : Nat) => BE (BK (gD a.q i))) i).ba = (gD a.q i).ba /\ (gD (AJ a.q.length λ (i : Nat) => BE (BK (gD a.q i))) i).mi = (gD a.q i).mi) /\ a.q.length = (AJ a.q.length
 λ (i : Nat) => BE (BK (gD a.q i))).length /\ (∀ (i : Nat), i < a.q.length -> (gD a.q i).of.length = (gD (AJ a.q.length λ (i : Nat) => BE (BK (gD a.q i))) i).of.length /\ (∀ (i_1 : Nat), i_1 < (gD a.q i).of.length ->
 gD (gD a.q i).of i_1 = gD (gD (AJ a.q.length λ (i : Nat) => BE (BK (gD a.q i))) i).of i_1) /\ (gD a.q i).ba = (gD (AJ a.q.length λ (i : Nat) => BE (BK (gD a.q i))) i).ba /\ (gD a.q i).mi = (gD (AJ a.q.length fun
 (i : Nat) => BE (BK (gD a.q i))) i).mi) /\ (AJ a.l.length λ (i : Nat) => gD a.l i).length < 4611686018427387904 /\ True) /\ decide (BN (λ (i : Nat) => !Wx a.q (gD a.l i)) a.l.length 0 >= 0) = decide (BN (λ (i :
 Nat) => !Wx (AJ a.q.length λ (i : Nat) => BE (BK (gD a.q i))) (gD (AJ a.l.length λ (i : Nat) => gD a.l i) i)) (AJ a.l.length λ (i : Nat) => gD a.l i).length 0 >= 0) /\ a.q.length = a.q.length /\ ∀ (i : Nat), i <
 a.q.length -> (gD a.q i).of.length = (gD a.q i).of.length /\ (∀ (i_1 : Nat), i_1 < (gD a.q i).of.length -> gD (gD a.q i).of i_1 = gD (gD a.q i).of i_1) /\ (gD a.q i).ba = (gD a.q i).ba /\ (gD a.q i).mi = (gD a.q i).mi) := by
 kernel_rfl
theorem BFV : AR Try.prog JD (C3Kl.spec d3Kl) := Ctr.spec_ok (C := C3Kl) (λ (a : MKl) h => JK (A := A3Kl) (ren := []) (fz := []) UA (by kernel_rfl) (AH BCV AM) (by
 obtain ⟨h, hp⟩ : a.l.length < 4611686018427387904 /\ True := h
 show V3Kl a; rw [BIT]; simp [h, hp, AP, BC])) _
def d4Kl : List AVal -> Heap -> Option (MKl × List (Nat × Nat) × List Nat)
 | [.fn _ _ [.bptr j _], y], H => match HK y H with
  | some (n, g, f) => match JC H j with
   | some q => some (⟨q, AJ n λ i => CR (g i)⟩, [(101, j)], f)
   | none => none
  | none => none
 | _, _ => none
def A4Kl : Ann := { ann 9 [(JD, C3Kl.spec d3Kl)] with E := [101] }
def C4Kl : Ctr := { ro := [101], α := MKl, xs := λ a => [fvKl a.q, .d (AF a.l)], L := λ a => LXKl a.q, val := λ a => .bool (a.l.all λ x => Wx a.q x), keep := λ a => KXKl a.q, pre := PKl }
def V4Kl (a : MKl) : Prop := BB Try.prog A4Kl yQ (AS yQ) (C4Kl.xs a) (AK (C4Kl.L a)) (C4Kl.val a) (C4Kl.keep a) [] []
theorem BEU (a : MKl) : (V4Kl a) = (((AJ a.l.length λ (i : Nat) => gD a.l i).length = a.l.length /\ (∀ (i : Nat), i < (AJ a.l.length λ (i : Nat) => gD a.l i).length -> gD (AJ a.l.length λ (i : Nat) => gD a.l i)
 i = gD a.l i) /\ (AJ a.q.length λ (i : Nat) => BE (BK (gD a.q i))).length = a.q.length /\ (∀ (i : Nat), i < (AJ a.q.length λ (i : Nat) => BE (BK (gD a.q i))).length -> (gD (AJ a.q.length λ (i : Nat) => BE (BK
 (gD a.q i))) i).of.length = (gD a.q i).of.length /\ (∀ (i_1 : Nat), i_1 < (gD (AJ a.q.length λ (i : Nat) => BE (BK (gD a.q i))) i).of.length -> gD (gD (AJ a.q.length λ (i : Nat) => BE (BK (gD a.q i))) i).of i_1 =
 gD (gD a.q i).of i_1) /\ (gD (AJ a.q.length λ (i : Nat) => BE (BK (gD a.q i))) i).ba = (gD a.q i).ba /\ (gD (AJ a.q.length λ (i : Nat) => BE (BK (gD a.q i))) i).mi = (gD a.q i).mi) /\ a.q.length = (AJ a.q.length
 λ (i : Nat) => BE (BK (gD a.q i))).length /\ (∀ (i : Nat), i < a.q.length -> (gD a.q i).of.length = (gD (AJ a.q.length λ (i : Nat) => BE (BK (gD a.q i))) i).of.length /\ (∀ (i_1 : Nat), i_1 < (gD a.q i).of.length ->
 gD (gD a.q i).of i_1 = gD (gD (AJ a.q.length λ (i : Nat) => BE (BK (gD a.q i))) i).of i_1) /\ (gD a.q i).ba = (gD (AJ a.q.length λ (i : Nat) => BE (BK (gD a.q i))) i).ba /\ (gD a.q i).mi = (gD (AJ a.q.length fun
 (i : Nat) => BE (BK (gD a.q i))) i).mi) /\ (AJ a.l.length λ (i : Nat) => gD a.l i).length < 4611686018427387904 /\ True) /\ (a.l.all λ (x : Int) => Wx a.q x) = !decide (BN (λ (i : Nat) => !Wx (AJ a.q.length fun
 (i : Nat) => BE (BK (gD a.q i))) (gD (AJ a.l.length λ (i : Nat) => gD a.l i) i)) (AJ a.l.length λ (i : Nat) => gD a.l i).length 0 >= 0) /\ a.q.length = a.q.length /\ ∀ (i : Nat), i < a.q.length -> (gD a.q
 i).of.length = (gD a.q i).of.length /\ (∀ (i_1 : Nat), i_1 < (gD a.q i).of.length -> gD (gD a.q i).of i_1 = gD (gD a.q i).of i_1) /\ (gD a.q i).ba = (gD a.q i).ba /\ (gD a.q i).mi = (gD a.q i).mi) := by kernel_rfl
theorem BFH (a : MKl) (h : BG (PKl a)) : FnT Try.prog qY (C4Kl.xs a) (AK (C4Kl.L a)) (C4Kl.val a) (C4Kl.keep a) := JK (A := A4Kl) (ren := []) (fz := []) AHF (by kernel_rfl) (AH BFV AM) (by
 have h' : a.l.length < 4611686018427387904 /\ True := h
 show V4Kl a; rw [BEU]; simp only [BF, eq_self, implies_true, and_self, true_and, and_true, true_implies, forall_const, decide_eq_true_eq, decide_eq_false_iff_not, Int.toNat_natCast, dSpan_eSpan, dInt_eInt, AV, BH, BJ, BC, AZ, AX, AY, Nat.zero_add, Int.zero_sub, Nat.le_eq, Nat.succ_eq_add_one, Nat.add_one_le_iff, Bool.not_eq_true', Bool.not_eq_false', rng_length, AT, AP, ge_iff_le]
 rw [<- EO]
 exact ⟨h'.1, rfl⟩)
theorem BJY : AR Try.prog qY (C4Kl.spec d4Kl) := Ctr.spec_ok (C := C4Kl) BFH _
def LXKr (q : LQ) : List (Nat × AObj) := [(101, HY q.l), (102, .box [.int q.i])]
def KXKr (q : LQ) : List (Nat × HCell) := [(101, .live (HY q.l)), (102, .live (.box [.int q.i]))]
def fvKr (q : LQ) : AVal := .fn (.func Tx) [] [.bptr 101 0, .bptr 102 0]
def BKr (q : LQ) : AObj := .box [fvKr q]
structure EKr where
 q : LQ
 e : Int
structure MKr where
 q : LQ
 l : List Int
def C1Kr : Ctr := { ro := [100, 101, 102], α := EKr, xs := λ a => [.d (BM a.e), .bptr 100 0], L := λ a => (100, BKr a.q) :: LXKr a.q, val := λ a => .bool (!xT a.q.l a.q.i a.e), keep := λ a => (100, .live (BKr a.q)) :: KXKr a.q, pre := λ a => [True] }
def d1Kr : List AVal -> Heap -> Option (EKr × List (Nat × Nat) × List Nat)
 | [.d d, .bptr id _], H => match H id with
  | .live (.box [.fn _ _ [.bptr j _, .bptr k _]]) => match JC H j, wS H k with
   | some q, some i => some (⟨⟨q, i⟩, CR d⟩, [(100, id), (101, j), (102, k)], [])
   | _, _ => none
  | _ => none
 | _, _ => none
def A1Kr : Ann := { ann 8 [(Tx, C_r2.spec d_r2)] with E := [100, 101, 102] }
def V1Kr (a : EKr) : Prop := BB Try.prog A1Kr sR (AS sR) (C1Kr.xs a) (AK (C1Kr.L a)) (C1Kr.val a) (C1Kr.keep a) [] []
theorem BHZ (a : EKr) : (V1Kr a) = ((a.e = a.e /\ (AJ a.q.l.length λ (i : Nat) => BE (BK (gD a.q.l i))).length = a.q.l.length /\ (∀ (i : Nat), i < (AJ a.q.l.length λ (i : Nat) => BE (BK (gD a.q.l i))).length ->
 (gD (AJ a.q.l.length λ (i : Nat) => BE (BK (gD a.q.l i))) i).of.length = (gD a.q.l i).of.length /\ (∀ (i_1 : Nat), i_1 < (gD (AJ a.q.l.length λ (i : Nat) => BE (BK (gD a.q.l i))) i).of.length -> gD (gD (AJ
 a.q.l.length λ (i : Nat) => BE (BK (gD a.q.l i))) i).of i_1 = gD (gD a.q.l i).of i_1) /\ (gD (AJ a.q.l.length λ (i : Nat) => BE (BK (gD a.q.l i))) i).ba = (gD a.q.l i).ba /\ (gD (AJ a.q.l.length λ (i : Nat) =>
 BE (BK (gD a.q.l i))) i).mi = (gD a.q.l i).mi) /\ a.q.i = a.q.i /\ a.q.l.length = (AJ a.q.l.length λ (i : Nat) => BE (BK (gD a.q.l i))).length /\ (∀ (i : Nat), i < a.q.l.length -> (gD a.q.l i).of.length = (gD (AJ
 a.q.l.length λ (i : Nat) => BE (BK (gD a.q.l i))) i).of.length /\ (∀ (i_1 : Nat), i_1 < (gD a.q.l i).of.length -> gD (gD a.q.l i).of i_1 = gD (gD (AJ a.q.l.length λ (i : Nat) => BE (BK (gD a.q.l i))) i).of i_1) /\
 (gD a.q.l i).ba = (gD (AJ a.q.l.length λ (i : Nat) => BE (BK (gD a.q.l i))) i).ba /\ (gD a.q.l i).mi = (gD (AJ a.q.l.length λ (i : Nat) => BE (BK (gD a.q.l i))) i).mi) /\ a.q.i = a.q.i) /\ (!xT a.q.l a.q.i a.e) =
 !xT (AJ a.q.l.length λ (i : Nat) => BE (BK (gD a.q.l i))) a.q.i a.e /\ a.q.l.length = a.q.l.length /\ (∀ (i : Nat), i < a.q.l.length -> (gD a.q.l i).of.length = (gD a.q.l i).of.length /\ (∀ (i_1 : Nat), i_1 < (gD a.q.l
 i).of.length -> gD (gD a.q.l i).of i_1 = gD (gD a.q.l i).of i_1) /\ (gD a.q.l i).ba = (gD a.q.l i).ba /\ (gD a.q.l i).mi = (gD a.q.l i).mi) /\ a.q.i = a.q.i) := by kernel_rfl
theorem BDC : AR Try.prog PN (C1Kr.spec d1Kr) := EX C1Kr (λ _ => A1Kr) [] [] ACF (λ _ => by kernel_rfl) (λ _ => AH BIZ AM) (λ (a : EKr) h => by
 have h : True := h
 show V1Kr a; rw [BHZ]; try simp [wr, AP, BC, AY, h]) (λ _ => FK rfl rfl) _
def d2Kr : List AVal -> Heap -> Option (MKr × List (Nat × Nat) × List Nat)
 | [y, .fn _ _ [.bptr id _]], H => match HK y H with
  | some (n, g, f) => match H id with
   | .live (.box [.fn _ _ [.bptr j _, .bptr k _]]) => match JC H j, wS H k with
    | some q, some i => some (⟨⟨q, i⟩, AJ n λ i => CR (g i)⟩, [(100, id), (101, j), (102, k)], f)
    | _, _ => none
   | _ => none
  | none => none
 | _, _ => none
def A2Kr (a : MKr) : Ann := { ann 19 [(PN, C1Kr.spec d1Kr)] with E := [100, 101, 102], loops := λ id => if id = 2 then some [{ α := Nat, dflt := 0, T := λ k => ⟨[(0, .d (AF a.l)), (1, .fn (.func PN) [] [.bptr 100 0]), (7, .int a.l.length), (8, .int k)], (100, .live (BKr a.q)) :: KXKr a.q⟩, inv := λ k => k <= a.l.length /\ BN (λ i => !xT a.q.l a.q.i (gD a.l i)) a.l.length 0 = BN (λ i => !xT a.q.l a.q.i (gD a.l i)) (a.l.length - k) k, meas := λ k => a.l.length - k }] else none }
def PKr (a : MKr) : List Prop := [a.l.length < 4611686018427387904 /\ True]
def C2Kr : Ctr := { ro := [100, 101, 102], α := MKr, xs := λ a => [.d (AF a.l), .fn (.func PN) [] [.bptr 100 0]], L := λ a => (100, BKr a.q) :: LXKr a.q, val := λ a => .int (BN (λ i => !xT a.q.l a.q.i (gD a.l i)) a.l.length 0), keep := λ a => (100, .live (BKr a.q)) :: KXKr a.q, pre := PKr }
def V2Kr (a : MKr) : Prop := BB Try.prog (A2Kr a) IQ (AS IQ) (C2Kr.xs a) (AK (C2Kr.L a)) (C2Kr.val a) (C2Kr.keep a) [] []
abbrev AGD (a : MKr) : Prop := a.l.length = a.l.length
abbrev ADU (a : MKr) (i : Nat) : Prop := gD a.l i = gD a.l i
abbrev ADY (a : MKr) : Prop := ∀ (i : Nat), i < a.l.length -> ADU a i
abbrev AGE (a : MKr) : Prop := (↑a.l.length : Int) = (↑a.l.length : Int)
abbrev Yz (a : MKr) (i : Nat) : Nat := (gD a.q.l i).of.length
abbrev AEF (i : Nat) (a : MKr) (i1 : Nat) : Prop := i < Yz a i1
abbrev tW (a : MKr) (i : Nat) (i1 : Nat) : Int := gD (gD a.q.l i).of i1
abbrev pX (a : MKr) : Prop := a.q.l.length = a.q.l.length /\ (∀ (i : Nat), i < a.q.l.length -> Yz a i = Yz a i /\ (∀ (i_1 : Nat), AEF i_1 a i -> tW a i i_1 = tW a i i_1) /\ (gD a.q.l i).ba = (gD a.q.l
 i).ba /\ (gD a.q.l i).mi = (gD a.q.l i).mi) /\ a.q.i = a.q.i
abbrev AEM (a : MKr) (i : Nat) : Bool := !xT a.q.l a.q.i (gD a.l i)
abbrev M7 (a : MKr) : Int := BN (λ (i : Nat) => AEM a i) a.l.length 0
abbrev lF (a : MKr) (a1 : Nat) : Nat := a.l.length - a1
abbrev gW (a : Nat) (a1 : MKr) : Prop := a <= a1.l.length /\ M7 a1 = BN (λ (i : Nat) => AEM a1 i) (lF a1 a) a
abbrev S6 (a : Nat) (a1 : MKr) : Prop := (↑a : Int) < (↑a1.l.length : Int)
abbrev lO (a : MKr) : List Wk := AJ a.q.l.length λ (i : Nat) => BE (BK (gD a.q.l i))
abbrev jZ (a : MKr) : Nat := (lO a).length
abbrev hU (a : MKr) (i : Nat) : Wk := gD (lO a) i
abbrev W7 (a : MKr) (i : Nat) : List Int := (hU a i).of
abbrev iM (a : MKr) (i : Nat) : Nat := (W7 a i).length
abbrev E5 (a : MKr) (i : Nat) (i1 : Nat) : Int := gD (W7 a i) i1
abbrev H4 (a : MKr) (i : Nat) : Int := (hU a i).ba
abbrev M1 (a : MKr) (i : Nat) : Int := (hU a i).mi
theorem BFN (a : MKr) : (V2Kr a) = ((∃ (a_1 : Nat), (AGD a /\ ADY a /\ AGE a /\ (↑a_1 : Int) = 0 /\ pX a) /\ gW a_1 a) /\ ∀ (a_1 : Nat), gW a_1 a -> bif decide (S6 a_1 a) then ((0 <= (↑a_1 : Int) /\
 S6 a_1 a) /\ ADU a a_1 /\ jZ a = a.q.l.length /\ (∀ (i : Nat), i < jZ a -> iM a i = Yz a i /\ (∀ (i_1 : Nat), i_1 < iM a i -> E5 a i i_1 = tW a i i_1) /\ H4 a i = (gD a.q.l i).ba /\
 M1 a i = (gD a.q.l i).mi) /\ a.q.i = a.q.i /\ a.q.l.length = jZ a /\ (∀ (i : Nat), i < a.q.l.length -> Yz a i = iM a i /\ (∀ (i_1 : Nat), AEF i_1 a i -> tW a i i_1 = E5 a i i_1) /\ (gD a.q.l i).ba
 = H4 a i /\ (gD a.q.l i).mi = M1 a i) /\ a.q.i = a.q.i /\ True) /\ bif !xT (lO a) a.q.i (gD a.l a_1) then M7 a = (↑a_1 : Int) /\ pX a else ∃ (a_3 : Nat), (AGD a /\ ADY a /\ AGE a /\ (↑a_3 : Int)
 = IntKind.i64.wrap ((↑a_1 : Int) + 1) /\ pX a) /\ gW a_3 a /\ lF a a_3 < lF a a_1 else M7 a = -1 /\ pX a) := by kernel_rfl
theorem p2Kr (a : MKr) (h : BG (PKr a)) : V2Kr a := by
 obtain ⟨h, hp⟩ : a.l.length < 4611686018427387904 /\ True := h
 rw [BFN]; delta AGD ADU ADY AGE Yz AEF tW pX AEM M7 lF gW S6 lO jZ hU W7 iM E5 H4 M1
 simp only [BF, eq_self, implies_true, and_self, true_and, and_true, true_implies, forall_const, decide_eq_true_eq, decide_eq_false_iff_not, Int.toNat_natCast, dSpan_eSpan, dInt_eInt, AV, BH, BJ, BC, AZ, AX, AY, Nat.zero_add, Int.zero_sub, Nat.le_eq, Nat.succ_eq_add_one, Nat.add_one_le_iff, Bool.not_eq_true', Bool.not_eq_false', rng_length, AT, AP]
 refine ⟨⟨0, rfl, Nat.zero_le _, rfl⟩, λ k ⟨h1, h2⟩ => ⟨λ hlt => ?_, λ hge => ?_⟩⟩
 ·have hlt : k < a.l.length := by omega
  refine ⟨⟨by omega, by omega⟩, λ hp => ?_, λ hp => ⟨k + 1, (CE (by omega)).symm, ⟨by omega, ?_⟩, by omega⟩⟩
  ·rw [h2]; exact DJ hlt (by simpa using hp)
  ·rw [h2]; exact FZ hlt (by simpa using hp)
 ·rw [h2]; exact EK (by omega)
theorem BIW : AR Try.prog JM (C2Kr.spec d2Kr) := EX C2Kr A2Kr [] [] WK (λ _ => by kernel_rfl) (λ _ => AH BDC AM) p2Kr (λ _ => FK rfl rfl) _
def C3Kr : Ctr := { C2Kr with val := λ (a : MKr) => .bool (decide (BN (λ i => !xT a.q.l a.q.i (gD a.l i)) a.l.length 0 >= 0)) }
def d3Kr : List AVal -> Heap -> Option (C3Kr.α × List (Nat × Nat) × List Nat) := d2Kr
def A3Kr : Ann := { ann 9 [(JM, C2Kr.spec d2Kr)] with E := [100, 101, 102] }
def V3Kr (a : MKr) : Prop := BB Try.prog A3Kr IY (AS IY) (C3Kr.xs a) (AK (C3Kr.L a)) (C3Kr.val a) (C3Kr.keep a) [] []
theorem BEW (a : MKr) : (V3Kr a) = (((AJ a.l.length λ (i : Nat) => gD a.l i).length = a.l.length /\ (∀ (i : Nat), i < (AJ a.l.length λ (i : Nat) => gD a.l i).length -> gD (AJ a.l.length λ (i : Nat) => gD a.l i)
 i = gD a.l i) /\ (AJ a.q.l.length λ (i : Nat) => BE (BK (gD a.q.l i))).length = a.q.l.length /\ (∀ (i : Nat), i < (AJ a.q.l.length λ (i : Nat) => BE (BK (gD a.q.l i))).length -> (gD (AJ a.q.l.length λ (i : Nat)
 => BE (BK (gD a.q.l i))) i).of.length = (gD a.q.l i).of.length /\ (∀ (i_1 : Nat), i_1 < (gD (AJ a.q.l.length λ (i : Nat) => BE (BK (gD a.q.l i))) i).of.length -> gD (gD (AJ a.q.l.length λ (i : Nat) => BE (BK
 (gD a.q.l i))) i).of i_1 = gD (gD a.q.l i).of i_1) /\ (gD (AJ a.q.l.length λ (i : Nat) => BE (BK (gD a.q.l i))) i).ba = (gD a.q.l i).ba /\ (gD (AJ a.q.l.length λ (i : Nat) => BE (BK (gD a.q.l i))) i).mi = (gD
 a.q.l i).mi) /\ a.q.i = a.q.i /\ a.q.l.length = (AJ a.q.l.length λ (i : Nat) => BE (BK (gD a.q.l i))).length /\ (∀ (i : Nat), i < a.q.l.length -> (gD a.q.l i).of.length = (gD (AJ a.q.l.length λ (i : Nat) => BE (BK
 (gD a.q.l i))) i).of.length /\ (∀ (i_1 : Nat), i_1 < (gD a.q.l i).of.length -> gD (gD a.q.l i).of i_1 = gD (gD (AJ a.q.l.length λ (i : Nat) => BE (BK (gD a.q.l i))) i).of i_1) /\ (gD a.q.l i).ba = (gD (AJ a.q.l.length
 λ (i : Nat) => BE (BK (gD a.q.l i))) i).ba /\ (gD a.q.l i).mi = (gD (AJ a.q.l.length λ (i : Nat) => BE (BK (gD a.q.l i))) i).mi) /\ a.q.i = a.q.i /\ (AJ a.l.length λ (i : Nat) => gD a.l i).length <
 4611686018427387904 /\ True) /\ decide (BN (λ (i : Nat) => !xT a.q.l a.q.i (gD a.l i)) a.l.length 0 >= 0) = decide (BN (λ (i : Nat) => !xT (AJ a.q.l.length λ (i : Nat) => BE (BK (gD a.q.l i))) a.q.i (gD (AJ
 a.l.length λ (i : Nat) => gD a.l i) i)) (AJ a.l.length λ (i : Nat) => gD a.l i).length 0 >= 0) /\ a.q.l.length = a.q.l.length /\ (∀ (i : Nat), i < a.q.l.length -> (gD a.q.l i).of.length = (gD a.q.l i).of.length /\ (∀
 (i_1 : Nat), i_1 < (gD a.q.l i).of.length -> gD (gD a.q.l i).of i_1 = gD (gD a.q.l i).of i_1) /\ (gD a.q.l i).ba = (gD a.q.l i).ba /\ (gD a.q.l i).mi = (gD a.q.l i).mi) /\ a.q.i = a.q.i) := by kernel_rfl
theorem BIN : AR Try.prog JD (C3Kr.spec d3Kr) := Ctr.spec_ok (C := C3Kr) (λ (a : MKr) h => JK (A := A3Kr) (ren := []) (fz := []) UA (by kernel_rfl) (AH BIW AM) (by
 obtain ⟨h, hp⟩ : a.l.length < 4611686018427387904 /\ True := h
 show V3Kr a; rw [BEW]; simp [h, hp, AP, BC])) _
def d4Kr : List AVal -> Heap -> Option (MKr × List (Nat × Nat) × List Nat)
 | [.fn _ _ [.bptr j _, .bptr k _], y], H => match HK y H with
  | some (n, g, f) => match JC H j, wS H k with
   | some q, some i => some (⟨⟨q, i⟩, AJ n λ i => CR (g i)⟩, [(101, j), (102, k)], f)
   | _, _ => none
  | none => none
 | _, _ => none
def A4Kr : Ann := { ann 9 [(JD, C3Kr.spec d3Kr)] with E := [101, 102] }
def C4Kr : Ctr := { ro := [101, 102], α := MKr, xs := λ a => [fvKr a.q, .d (AF a.l)], L := λ a => LXKr a.q, val := λ a => .bool (a.l.all λ x => xT a.q.l a.q.i x), keep := λ a => KXKr a.q, pre := PKr }
def V4Kr (a : MKr) : Prop := BB Try.prog A4Kr yQ (AS yQ) (C4Kr.xs a) (AK (C4Kr.L a)) (C4Kr.val a) (C4Kr.keep a) [] []
theorem BEX (a : MKr) : (V4Kr a) = (((AJ a.l.length λ (i : Nat) => gD a.l i).length = a.l.length /\ (∀ (i : Nat), i < (AJ a.l.length λ (i : Nat) => gD a.l i).length -> gD (AJ a.l.length λ (i : Nat) => gD a.l i)
 i = gD a.l i) /\ (AJ a.q.l.length λ (i : Nat) => BE (BK (gD a.q.l i))).length = a.q.l.length /\ (∀ (i : Nat), i < (AJ a.q.l.length λ (i : Nat) => BE (BK (gD a.q.l i))).length -> (gD (AJ a.q.l.length λ (i : Nat)
 => BE (BK (gD a.q.l i))) i).of.length = (gD a.q.l i).of.length /\ (∀ (i_1 : Nat), i_1 < (gD (AJ a.q.l.length λ (i : Nat) => BE (BK (gD a.q.l i))) i).of.length -> gD (gD (AJ a.q.l.length λ (i : Nat) => BE (BK
 (gD a.q.l i))) i).of i_1 = gD (gD a.q.l i).of i_1) /\ (gD (AJ a.q.l.length λ (i : Nat) => BE (BK (gD a.q.l i))) i).ba = (gD a.q.l i).ba /\ (gD (AJ a.q.l.length λ (i : Nat) => BE (BK (gD a.q.l i))) i).mi = (gD
 a.q.l i).mi) /\ a.q.i = a.q.i /\ a.q.l.length = (AJ a.q.l.length λ (i : Nat) => BE (BK (gD a.q.l i))).length /\ (∀ (i : Nat), i < a.q.l.length -> (gD a.q.l i).of.length = (gD (AJ a.q.l.length λ (i : Nat) => BE (BK
 (gD a.q.l i))) i).of.length /\ (∀ (i_1 : Nat), i_1 < (gD a.q.l i).of.length -> gD (gD a.q.l i).of i_1 = gD (gD (AJ a.q.l.length λ (i : Nat) => BE (BK (gD a.q.l i))) i).of i_1) /\ (gD a.q.l i).ba = (gD (AJ a.q.l.length
 λ (i : Nat) => BE (BK (gD a.q.l i))) i).ba /\ (gD a.q.l i).mi = (gD (AJ a.q.l.length λ (i : Nat) => BE (BK (gD a.q.l i))) i).mi) /\ a.q.i = a.q.i /\ (AJ a.l.length λ (i : Nat) => gD a.l i).length <
 4611686018427387904 /\ True) /\ (a.l.all λ (x : Int) => xT a.q.l a.q.i x) = !decide (BN (λ (i : Nat) => !xT (AJ a.q.l.length λ (i : Nat) => BE (BK (gD a.q.l i))) a.q.i (gD (AJ a.l.length λ (i : Nat) => gD
 a.l i) i)) (AJ a.l.length λ (i : Nat) => gD a.l i).length 0 >= 0) /\ a.q.l.length = a.q.l.length /\ (∀ (i : Nat), i < a.q.l.length -> (gD a.q.l i).of.length = (gD a.q.l i).of.length /\ (∀ (i_1 : Nat), i_1 < (gD a.q.l
 i).of.length -> gD (gD a.q.l i).of i_1 = gD (gD a.q.l i).of i_1) /\ (gD a.q.l i).ba = (gD a.q.l i).ba /\ (gD a.q.l i).mi = (gD a.q.l i).mi) /\ a.q.i = a.q.i) := by kernel_rfl
theorem BFQ (a : MKr) (h : BG (PKr a)) : FnT Try.prog qY (C4Kr.xs a) (AK (C4Kr.L a)) (C4Kr.val a) (C4Kr.keep a) := JK (A := A4Kr) (ren := []) (fz := []) AHF (by kernel_rfl) (AH BIN AM) (by
 have h' : a.l.length < 4611686018427387904 /\ True := h
 show V4Kr a; rw [BEX]; simp only [BF, eq_self, implies_true, and_self, true_and, and_true, true_implies, forall_const, decide_eq_true_eq, decide_eq_false_iff_not, Int.toNat_natCast, dSpan_eSpan, dInt_eInt, AV, BH, BJ, BC, AZ, AX, AY, Nat.zero_add, Int.zero_sub, Nat.le_eq, Nat.succ_eq_add_one, Nat.add_one_le_iff, Bool.not_eq_true', Bool.not_eq_false', rng_length, AT, AP, ge_iff_le]
 rw [<- EO]
 exact ⟨h'.1, rfl⟩)
theorem BJA : AR Try.prog qY (C4Kr.spec d4Kr) := Ctr.spec_ok (C := C4Kr) BFQ _
def LXKt (q : Nat) : List (Nat × AObj) := thL q
def KXKt (q : Nat) : List (Nat × HCell) := thK q
def fvKt (q : Nat) : AVal := .fn (.func GP) [] [.bptr 101 0]
def BKt (q : Nat) : AObj := .box [fvKt q]
structure EKt where
 q : Nat
 e : Int
structure MKt where
 q : Nat
 l : List Int
def C1Kt : Ctr := { ro := [100, 101, 102], α := EKt, xs := λ a => [.d (BM a.e), .bptr 100 0], L := λ a => (100, BKt a.q) :: LXKt a.q, val := λ a => .bool (!CK (CC a.q) a.e), keep := λ a => (100, .live (BKt a.q)) :: KXKt a.q, pre := λ a => [a.q <= 30] }
def d1Kt : List AVal -> Heap -> Option (EKt × List (Nat × Nat) × List Nat)
 | [.d d, .bptr id _], H => match H id with
  | .live (.box [.fn _ _ [.bptr j _]]) => match H j with
   | .live (.box [.own r _ _ m]) => some (⟨m, CR d⟩, [(100, id), (101, j), (102, r)], [])
   | _ => none
  | _ => none
 | _, _ => none
def A1Kt : Ann := { ann 8 [(GP, C_th.spec d_th)] with E := [100, 101, 102] }
def V1Kt (a : EKt) : Prop := BB Try.prog A1Kt sR (AS sR) (C1Kt.xs a) (AK (C1Kt.L a)) (C1Kt.val a) (C1Kt.keep a) [] []
theorem BFI (a : EKt) : (V1Kt a) = ((a.e = a.e /\ 0 = 0 /\ a.q = a.q /\ a.q = a.q /\ (∀ (i : Nat), i < a.q -> (↑i : Int) = (↑i : Int)) /\ 0 = 0 /\ a.q = a.q /\ a.q = a.q /\ (∀ (i : Nat), i < a.q -> (↑i : Int) = (↑i : Int)) /\
 a.q.le 30) /\ (!CK (CC a.q) a.e) = !CK (CC a.q) a.e /\ 0 = 0 /\ a.q = a.q /\ a.q = a.q /\ ∀ (i : Nat), i < a.q -> (↑i : Int) = (↑i : Int)) := by kernel_rfl
theorem BGZ : AR Try.prog PN (C1Kt.spec d1Kt) := EX C1Kt (λ _ => A1Kt) [] [] ACF (λ _ => by kernel_rfl) (λ _ => AH AXE AM) (λ (a : EKt) h => by
 have h : a.q <= 30 := h
 show V1Kt a; rw [BFI]; try simp [wr, AP, BC, AY, h]) (λ _ => FK rfl rfl) _
def d2Kt : List AVal -> Heap -> Option (MKt × List (Nat × Nat) × List Nat)
 | [y, .fn _ _ [.bptr id _]], H => match HK y H with
  | some (n, g, f) => match H id with
   | .live (.box [.fn _ _ [.bptr j _]]) => match H j with
    | .live (.box [.own r _ _ m]) => some (⟨m, AJ n λ i => CR (g i)⟩, [(100, id), (101, j), (102, r)], f)
    | _ => none
   | _ => none
  | none => none
 | _, _ => none
def A2Kt (a : MKt) : Ann := { ann 19 [(PN, C1Kt.spec d1Kt)] with E := [100, 101, 102], loops := λ id => if id = 2 then some [{ α := Nat, dflt := 0, T := λ k => ⟨[(0, .d (AF a.l)), (1, .fn (.func PN) [] [.bptr 100 0]), (7, .int a.l.length), (8, .int k)], (100, .live (BKt a.q)) :: KXKt a.q⟩, inv := λ k => k <= a.l.length /\ BN (λ i => !CK (CC a.q) (gD a.l i)) a.l.length 0 = BN (λ i => !CK (CC a.q) (gD a.l i)) (a.l.length - k) k, meas := λ k => a.l.length - k }] else none }
def PKt (a : MKt) : List Prop := [a.l.length < 4611686018427387904 /\ a.q <= 30]
def C2Kt : Ctr := { ro := [100, 101, 102], α := MKt, xs := λ a => [.d (AF a.l), .fn (.func PN) [] [.bptr 100 0]], L := λ a => (100, BKt a.q) :: LXKt a.q, val := λ a => .int (BN (λ i => !CK (CC a.q) (gD a.l i)) a.l.length 0), keep := λ a => (100, .live (BKt a.q)) :: KXKt a.q, pre := PKt }
def V2Kt (a : MKt) : Prop := BB Try.prog (A2Kt a) IQ (AS IQ) (C2Kt.xs a) (AK (C2Kt.L a)) (C2Kt.val a) (C2Kt.keep a) [] []
theorem BDQ (a : MKt) : (V2Kt a) = ((∃ (a_1 : Nat), (a.l.length = a.l.length /\ (∀ (i : Nat), i < a.l.length -> gD a.l i = gD a.l i) /\ (↑a.l.length : Int) = (↑a.l.length : Int) /\ (↑a_1 : Int) = 0 /\ 0 = 0 /\ a.q = a.q /\
 a.q = a.q /\ ∀ (i : Nat), i < a.q -> (↑i : Int) = (↑i : Int)) /\ a_1 <= a.l.length /\ BN (λ (i : Nat) => !CK (CC a.q) (gD a.l i)) a.l.length 0 = BN (λ (i : Nat) => !CK (CC a.q) (gD a.l i)) (a.l.length - a_1)
 a_1) /\ ∀ (a_1 : Nat), a_1 <= a.l.length /\ BN (λ (i : Nat) => !CK (CC a.q) (gD a.l i)) a.l.length 0 = BN (λ (i : Nat) => !CK (CC a.q) (gD a.l i)) (a.l.length - a_1) a_1 -> bif decide ((↑a_1 : Int) <
 (↑a.l.length : Int)) then ((0 <= (↑a_1 : Int) /\ (↑a_1 : Int) < (↑a.l.length : Int)) /\ gD a.l a_1 = gD a.l a_1 /\ 0 = 0 /\ a.q = a.q /\ a.q = a.q /\ (∀ (i : Nat), i < a.q -> (↑i : Int) = (↑i : Int)) /\ 0 = 0 /\ a.q = a.q /\ a.q =
 a.q /\ (∀ (i : Nat), i < a.q -> (↑i : Int) = (↑i : Int)) /\ a.q.le 30) /\ bif !CK (CC a.q) (gD a.l a_1) then BN (λ (i : Nat) => !CK (CC a.q) (gD a.l i)) a.l.length 0 = (↑a_1 : Int) /\ 0 = 0 /\ a.q = a.q /\ a.q = a.q
 /\ ∀ (i : Nat), i < a.q -> (↑i : Int) = (↑i : Int) else ∃ (a_3 : Nat), (a.l.length = a.l.length /\ (∀ (i : Nat), i < a.l.length -> gD a.l i = gD a.l i) /\ (↑a.l.length : Int) = (↑a.l.length : Int) /\ (↑a_3 : Int) =
 IntKind.i64.wrap ((↑a_1 : Int) + 1) /\ 0 = 0 /\ a.q = a.q /\ a.q = a.q /\ ∀ (i : Nat), i < a.q -> (↑i : Int) = (↑i : Int)) /\ (a_3 <= a.l.length /\ BN (λ (i : Nat) => !CK (CC a.q) (gD a.l i)) a.l.length 0 = BN (λ (i :
 Nat) => !CK (CC a.q) (gD a.l i)) (a.l.length - a_3) a_3) /\ a.l.length - a_3 < a.l.length - a_1 else BN (λ (i : Nat) => !CK (CC a.q) (gD a.l i)) a.l.length 0 = -1 /\ 0 = 0 /\ a.q = a.q /\ a.q = a.q /\ ∀ (i : Nat),
 i < a.q -> (↑i : Int) = (↑i : Int)) := by kernel_rfl
theorem p2Kt (a : MKt) (h : BG (PKt a)) : V2Kt a := by
 obtain ⟨h, hp⟩ : a.l.length < 4611686018427387904 /\ a.q <= 30 := h
 rw [BDQ]
 simp only [BF, eq_self, implies_true, and_self, true_and, and_true, true_implies, forall_const, decide_eq_true_eq, decide_eq_false_iff_not, Int.toNat_natCast, dSpan_eSpan, dInt_eInt, AV, BH, BJ, BC, AZ, AX, AY, Nat.zero_add, Int.zero_sub, Nat.le_eq, Nat.succ_eq_add_one, Nat.add_one_le_iff, Bool.not_eq_true', Bool.not_eq_false', rng_length, AT, AP]
 refine ⟨⟨0, rfl, Nat.zero_le _, rfl⟩, λ k ⟨h1, h2⟩ => ⟨λ hlt => ?_, λ hge => ?_⟩⟩
 ·have hlt : k < a.l.length := by omega
  refine ⟨⟨by omega, by omega⟩, λ hp => ?_, λ hp => ⟨k + 1, (CE (by omega)).symm, ⟨by omega, ?_⟩, by omega⟩⟩
  ·rw [h2]; exact DJ hlt (by simpa using hp)
  ·rw [h2]; exact FZ hlt (by simpa using hp)
 ·rw [h2]; exact EK (by omega)
theorem BGF : AR Try.prog JM (C2Kt.spec d2Kt) := EX C2Kt A2Kt [] [] WK (λ _ => by kernel_rfl) (λ _ => AH BGZ AM) p2Kt (λ _ => FK rfl rfl) _
def C3Kt : Ctr := { C2Kt with val := λ (a : MKt) => .bool (decide (BN (λ i => !CK (CC a.q) (gD a.l i)) a.l.length 0 >= 0)) }
def d3Kt : List AVal -> Heap -> Option (C3Kt.α × List (Nat × Nat) × List Nat) := d2Kt
def A3Kt : Ann := { ann 9 [(JM, C2Kt.spec d2Kt)] with E := [100, 101, 102] }
def V3Kt (a : MKt) : Prop := BB Try.prog A3Kt IY (AS IY) (C3Kt.xs a) (AK (C3Kt.L a)) (C3Kt.val a) (C3Kt.keep a) [] []
theorem BFP (a : MKt) : (V3Kt a) = (((AJ a.l.length λ (i : Nat) => gD a.l i).length = a.l.length /\ (∀ (i : Nat), i < (AJ a.l.length λ (i : Nat) => gD a.l i).length -> gD (AJ a.l.length λ (i : Nat) => gD a.l i)
 i = gD a.l i) /\ 0 = 0 /\ a.q = a.q /\ a.q = a.q /\ (∀ (i : Nat), i < a.q -> (↑i : Int) = (↑i : Int)) /\ 0 = 0 /\ a.q = a.q /\ a.q = a.q /\ (∀ (i : Nat), i < a.q -> (↑i : Int) = (↑i : Int)) /\ (AJ a.l.length λ (i : Nat) => gD
 a.l i).length < 4611686018427387904 /\ a.q <= 30) /\ decide (BN (λ (i : Nat) => !CK (CC a.q) (gD a.l i)) a.l.length 0 >= 0) = decide (BN (λ (i : Nat) => !CK (CC a.q) (gD (AJ a.l.length λ (i : Nat) => gD a.l
 i) i)) (AJ a.l.length λ (i : Nat) => gD a.l i).length 0 >= 0) /\ 0 = 0 /\ a.q = a.q /\ a.q = a.q /\ ∀ (i : Nat), i < a.q -> (↑i : Int) = (↑i : Int)) := by kernel_rfl
theorem BHU : AR Try.prog JD (C3Kt.spec d3Kt) := Ctr.spec_ok (C := C3Kt) (λ (a : MKt) h => JK (A := A3Kt) (ren := []) (fz := []) UA (by kernel_rfl) (AH BGF AM) (by
 obtain ⟨h, hp⟩ : a.l.length < 4611686018427387904 /\ a.q <= 30 := h
 show V3Kt a; rw [BFP]; simp [h, hp, AP, BC])) _
def d4Kt : List AVal -> Heap -> Option (MKt × List (Nat × Nat) × List Nat)
 | [.fn _ _ [.bptr j _], y], H => match HK y H with
  | some (n, g, f) => match H j with
   | .live (.box [.own r _ _ m]) => some (⟨m, AJ n λ i => CR (g i)⟩, [(101, j), (102, r)], f)
   | _ => none
  | none => none
 | _, _ => none
def A4Kt : Ann := { ann 9 [(JD, C3Kt.spec d3Kt)] with E := [101, 102] }
def C4Kt : Ctr := { ro := [101, 102], α := MKt, xs := λ a => [fvKt a.q, .d (AF a.l)], L := λ a => LXKt a.q, val := λ a => .bool (a.l.all λ x => CK (CC a.q) x), keep := λ a => KXKt a.q, pre := PKt }
def V4Kt (a : MKt) : Prop := BB Try.prog A4Kt yQ (AS yQ) (C4Kt.xs a) (AK (C4Kt.L a)) (C4Kt.val a) (C4Kt.keep a) [] []
theorem BDN (a : MKt) : (V4Kt a) = (((AJ a.l.length λ (i : Nat) => gD a.l i).length = a.l.length /\ (∀ (i : Nat), i < (AJ a.l.length λ (i : Nat) => gD a.l i).length -> gD (AJ a.l.length λ (i : Nat) => gD a.l i)
 i = gD a.l i) /\ 0 = 0 /\ a.q = a.q /\ a.q = a.q /\ (∀ (i : Nat), i < a.q -> (↑i : Int) = (↑i : Int)) /\ 0 = 0 /\ a.q = a.q /\ a.q = a.q /\ (∀ (i : Nat), i < a.q -> (↑i : Int) = (↑i : Int)) /\ (AJ a.l.length λ (i : Nat) => gD
 a.l i).length < 4611686018427387904 /\ a.q <= 30) /\ (a.l.all λ (x : Int) => CK (CC a.q) x) = !decide (BN (λ (i : Nat) => !CK (CC a.q) (gD (AJ a.l.length λ (i : Nat) => gD a.l i) i)) (AJ a.l.length λ (i :
 Nat) => gD a.l i).length 0 >= 0) /\ 0 = 0 /\ a.q = a.q /\ a.q = a.q /\ ∀ (i : Nat), i < a.q -> (↑i : Int) = (↑i : Int)) := by kernel_rfl
theorem BGB (a : MKt) (h : BG (PKt a)) : FnT Try.prog qY (C4Kt.xs a) (AK (C4Kt.L a)) (C4Kt.val a) (C4Kt.keep a) := JK (A := A4Kt) (ren := []) (fz := []) AHF (by kernel_rfl) (AH BHU AM) (by
 have h' : a.l.length < 4611686018427387904 /\ a.q <= 30 := h
 show V4Kt a; rw [BDN]; simp only [BF, eq_self, implies_true, and_self, true_and, and_true, true_implies, forall_const, decide_eq_true_eq, decide_eq_false_iff_not, Int.toNat_natCast, dSpan_eSpan, dInt_eInt, AV, BH, BJ, BC, AZ, AX, AY, Nat.zero_add, Int.zero_sub, Nat.le_eq, Nat.succ_eq_add_one, Nat.add_one_le_iff, Bool.not_eq_true', Bool.not_eq_false', rng_length, AT, AP, ge_iff_le]
 rw [<- EO]
 exact ⟨h', rfl⟩)
theorem BFA : AR Try.prog qY (C4Kt.spec d4Kt) := Ctr.spec_ok (C := C4Kt) BGB _
def fvKw (q : One) : AVal := .fn (.func Vr) [] []
def BKw (q : One) : AObj := .box [fvKw q]
structure EKw where
 q : One
 e : Wk
structure MKw where
 q : One
 l : List Wk
def C1Kw : Ctr := { ro := [100], α := EKw, xs := λ a => [.d (BK a.e), .bptr 100 0], L := λ a => (100, BKw a.q) :: [], val := λ a => .bool (!KN a.e), keep := λ a => (100, .live (BKw a.q)) :: [], pre := λ a => [True] }
def d1Kw : List AVal -> Heap -> Option (EKw × List (Nat × Nat) × List Nat)
 | [.d d, .bptr id _], H => some (⟨default, BE d⟩, [(100, id)], [])
 | _, _ => none
def A1Kw : Ann := { ann 8 [(Vr, C_r1.spec d_r1)] with E := [100] }
def V1Kw (a : EKw) : Prop := BB Try.prog A1Kw AKS (AS AKS) (C1Kw.xs a) (AK (C1Kw.L a)) (C1Kw.val a) (C1Kw.keep a) [] []
theorem BHT (a : EKw) : (V1Kw a) = (((BE (DVal.agg [AF a.e.of, BM a.e.ba, BM a.e.mi])).of.length = a.e.of.length /\ (∀ (i : Nat), i < (BE (DVal.agg [AF a.e.of, BM a.e.ba, BM a.e.mi])).of.length -> gD
 (BE (DVal.agg [AF a.e.of, BM a.e.ba, BM a.e.mi])).of i = gD a.e.of i) /\ (BE (DVal.agg [AF a.e.of, BM a.e.ba, BM a.e.mi])).ba = a.e.ba /\ (BE (DVal.agg [AF a.e.of, BM a.e.ba, BM a.e.mi])).mi =
 a.e.mi) /\ (!KN a.e) = !KN (BE (DVal.agg [AF a.e.of, BM a.e.ba, BM a.e.mi]))) := by kernel_rfl
theorem BCZ : AR Try.prog AAQ (C1Kw.spec d1Kw) := EX C1Kw (λ _ => A1Kw) [] [] BAJ (λ _ => by kernel_rfl) (λ _ => AH BIL AM) (λ (a : EKw) h => by
 have h : True := h
 show V1Kw a; rw [BHT]; try simp [wr, AP, BC, AY, h]) (λ _ => FK rfl rfl) _
def d2Kw : List AVal -> Heap -> Option (MKw × List (Nat × Nat) × List Nat)
 | [y, .fn _ _ [.bptr id _]], H => match HK y H with
  | some (n, g, f) => some (⟨default, AJ n λ i => BE (g i)⟩, [(100, id)], f)
  | none => none
 | _, _ => none
def A2Kw (a : MKw) : Ann := { ann 19 [(AAQ, C1Kw.spec d1Kw)] with E := [100], loops := λ id => if id = 2 then some [{ α := Nat, dflt := 0, T := λ k => ⟨[(0, .d (JZ a.l)), (1, .fn (.func AAQ) [] [.bptr 100 0]), (7, .int a.l.length), (8, .int k)], (100, .live (BKw a.q)) :: []⟩, inv := λ k => k <= a.l.length /\ BN (λ i => !KN (gD a.l i)) a.l.length 0 = BN (λ i => !KN (gD a.l i)) (a.l.length - k) k, meas := λ k => a.l.length - k }] else none }
def PKw (a : MKw) : List Prop := [a.l.length < 4611686018427387904 /\ True]
def C2Kw : Ctr := { ro := [100], α := MKw, xs := λ a => [.d (JZ a.l), .fn (.func AAQ) [] [.bptr 100 0]], L := λ a => (100, BKw a.q) :: [], val := λ a => .int (BN (λ i => !KN (gD a.l i)) a.l.length 0), keep := λ a => (100, .live (BKw a.q)) :: [], pre := PKw }
def V2Kw (a : MKw) : Prop := BB Try.prog (A2Kw a) APK (AS APK) (C2Kw.xs a) (AK (C2Kw.L a)) (C2Kw.val a) (C2Kw.keep a) [] []
theorem BET (a : MKw) : (V2Kw a) = ((∃ (a_1 : Nat), (a.l.length = a.l.length /\ (∀ (i : Nat), i < a.l.length -> (gD a.l i).of.length = (gD a.l i).of.length /\ (∀ (i_1 : Nat), i_1 < (gD a.l i).of.length -> gD (gD a.l i).of
 i_1 = gD (gD a.l i).of i_1) /\ (gD a.l i).ba = (gD a.l i).ba /\ (gD a.l i).mi = (gD a.l i).mi) /\ (↑a.l.length : Int) = (↑a.l.length : Int) /\ (↑a_1 : Int) = 0) /\ a_1 <= a.l.length /\ BN (λ (i : Nat) => !KN (gD a.l i))
 a.l.length 0 = BN (λ (i : Nat) => !KN (gD a.l i)) (a.l.length - a_1) a_1) /\ ∀ (a_1 : Nat), a_1 <= a.l.length /\ BN (λ (i : Nat) => !KN (gD a.l i)) a.l.length 0 = BN (λ (i : Nat) => !KN (gD a.l i))
 (a.l.length - a_1) a_1 -> bif decide ((↑a_1 : Int) < (↑a.l.length : Int)) then ((0 <= (↑a_1 : Int) /\ (↑a_1 : Int) < (↑a.l.length : Int)) /\ (BE (DVal.agg [AF (gD a.l a_1).of, BM (gD a.l a_1).ba, BM (gD a.l
 a_1).mi])).of.length = (gD a.l a_1).of.length /\ (∀ (i : Nat), i < (BE (DVal.agg [AF (gD a.l a_1).of, BM (gD a.l a_1).ba, BM (gD a.l a_1).mi])).of.length -> gD (BE (DVal.agg [AF (gD a.l a_1).of, BM (gD a.l
 a_1).ba, BM (gD a.l a_1).mi])).of i = gD (gD a.l a_1).of i) /\ (BE (DVal.agg [AF (gD a.l a_1).of, BM (gD a.l a_1).ba, BM (gD a.l a_1).mi])).ba = (gD a.l a_1).ba /\ (BE (DVal.agg [AF (gD a.l a_1).of, BM
 (gD a.l a_1).ba, BM (gD a.l a_1).mi])).mi = (gD a.l a_1).mi /\ True) /\ bif !KN (BE (DVal.agg [AF (gD a.l a_1).of, BM (gD a.l a_1).ba, BM (gD a.l a_1).mi])) then BN (λ (i : Nat) => !KN (gD a.l i))
 a.l.length 0 = (↑a_1 : Int) else ∃ (a_3 : Nat), (a.l.length = a.l.length /\ (∀ (i : Nat), i < a.l.length -> (gD a.l i).of.length = (gD a.l i).of.length /\ (∀ (i_1 : Nat), i_1 < (gD a.l i).of.length -> gD (gD a.l i).of i_1 =
 gD (gD a.l i).of i_1) /\ (gD a.l i).ba = (gD a.l i).ba /\ (gD a.l i).mi = (gD a.l i).mi) /\ (↑a.l.length : Int) = (↑a.l.length : Int) /\ (↑a_3 : Int) = IntKind.i64.wrap ((↑a_1 : Int) + 1)) /\ (a_3 <= a.l.length /\ BN (λ (i :
 Nat) => !KN (gD a.l i)) a.l.length 0 = BN (λ (i : Nat) => !KN (gD a.l i)) (a.l.length - a_3) a_3) /\ a.l.length - a_3 < a.l.length - a_1 else BN (λ (i : Nat) => !KN (gD a.l i)) a.l.length 0 = -1) := by
 kernel_rfl
theorem p2Kw (a : MKw) (h : BG (PKw a)) : V2Kw a := by
 obtain ⟨h, hp⟩ : a.l.length < 4611686018427387904 /\ True := h
 rw [BET]
 simp only [BF, eq_self, implies_true, and_self, true_and, and_true, true_implies, forall_const, decide_eq_true_eq, decide_eq_false_iff_not, Int.toNat_natCast, dSpan_eSpan, dInt_eInt, AV, BH, BJ, BC, AZ, AX, AY, Nat.zero_add, Int.zero_sub, Nat.le_eq, Nat.succ_eq_add_one, Nat.add_one_le_iff, Bool.not_eq_true', Bool.not_eq_false', rng_length, AT, AP]
 refine ⟨⟨0, rfl, Nat.zero_le _, rfl⟩, λ k ⟨h1, h2⟩ => ⟨λ hlt => ?_, λ hge => ?_⟩⟩
 ·have hlt : k < a.l.length := by omega
  refine ⟨⟨by omega, by omega⟩, λ hp => ?_, λ hp => ⟨k + 1, (CE (by omega)).symm, ⟨by omega, ?_⟩, by omega⟩⟩
  ·rw [h2]; exact DJ hlt (by simpa using hp)
  ·rw [h2]; exact FZ hlt (by simpa using hp)
 ·rw [h2]; exact EK (by omega)
theorem BHM : AR Try.prog ANZ (C2Kw.spec d2Kw) := EX C2Kw A2Kw [] [] AYX (λ _ => by kernel_rfl) (λ _ => AH BCZ AM) p2Kw (λ _ => FK rfl rfl) _
def C3Kw : Ctr := { C2Kw with val := λ (a : MKw) => .bool (decide (BN (λ i => !KN (gD a.l i)) a.l.length 0 >= 0)) }
def d3Kw : List AVal -> Heap -> Option (C3Kw.α × List (Nat × Nat) × List Nat) := d2Kw
def A3Kw : Ann := { ann 9 [(ANZ, C2Kw.spec d2Kw)] with E := [100] }
def V3Kw (a : MKw) : Prop := BB Try.prog A3Kw APR (AS APR) (C3Kw.xs a) (AK (C3Kw.L a)) (C3Kw.val a) (C3Kw.keep a) [] []
theorem BEH (a : MKw) : (V3Kw a) = (((AJ a.l.length λ (i : Nat) => BE (BK (gD a.l i))).length = a.l.length /\ (∀ (i : Nat), i < (AJ a.l.length λ (i : Nat) => BE (BK (gD a.l i))).length -> (gD (AJ a.l.length
 λ (i : Nat) => BE (BK (gD a.l i))) i).of.length = (gD a.l i).of.length /\ (∀ (i_1 : Nat), i_1 < (gD (AJ a.l.length λ (i : Nat) => BE (BK (gD a.l i))) i).of.length -> gD (gD (AJ a.l.length λ (i : Nat) => BE
 (BK (gD a.l i))) i).of i_1 = gD (gD a.l i).of i_1) /\ (gD (AJ a.l.length λ (i : Nat) => BE (BK (gD a.l i))) i).ba = (gD a.l i).ba /\ (gD (AJ a.l.length λ (i : Nat) => BE (BK (gD a.l i))) i).mi = (gD a.l i).mi) /\
 (AJ a.l.length λ (i : Nat) => BE (BK (gD a.l i))).length < 4611686018427387904 /\ True) /\ decide (BN (λ (i : Nat) => !KN (gD a.l i)) a.l.length 0 >= 0) = decide (BN (λ (i : Nat) => !KN (gD (AJ a.l.length
 λ (i : Nat) => BE (BK (gD a.l i))) i)) (AJ a.l.length λ (i : Nat) => BE (BK (gD a.l i))).length 0 >= 0)) := by kernel_rfl
theorem BIP : AR Try.prog ANP (C3Kw.spec d3Kw) := Ctr.spec_ok (C := C3Kw) (λ (a : MKw) h => JK (A := A3Kw) (ren := []) (fz := []) BBP (by kernel_rfl) (AH BHM AM) (by
 obtain ⟨h, hp⟩ : a.l.length < 4611686018427387904 /\ True := h
 show V3Kw a; rw [BEH]; simp [h, hp, AP, BC])) _
def d4Kw : List AVal -> Heap -> Option (MKw × List (Nat × Nat) × List Nat)
 | [.fn _ _ _, y], H => match HK y H with
  | some (n, g, f) => some (⟨default, AJ n λ i => BE (g i)⟩, [], f)
  | none => none
 | _, _ => none
def A4Kw : Ann := { ann 9 [(ANP, C3Kw.spec d3Kw)] with E := [] }
def C4Kw : Ctr := { ro := [], α := MKw, xs := λ a => [fvKw a.q, .d (JZ a.l)], L := λ a => [], val := λ a => .bool (a.l.all λ x => KN x), keep := λ a => [], pre := PKw }
def V4Kw (a : MKw) : Prop := BB Try.prog A4Kw F_eW (AS F_eW) (C4Kw.xs a) (AK (C4Kw.L a)) (C4Kw.val a) (C4Kw.keep a) [] []
theorem BFU (a : MKw) : (V4Kw a) = (((AJ a.l.length λ (i : Nat) => BE (BK (gD a.l i))).length = a.l.length /\ (∀ (i : Nat), i < (AJ a.l.length λ (i : Nat) => BE (BK (gD a.l i))).length -> (gD (AJ a.l.length
 λ (i : Nat) => BE (BK (gD a.l i))) i).of.length = (gD a.l i).of.length /\ (∀ (i_1 : Nat), i_1 < (gD (AJ a.l.length λ (i : Nat) => BE (BK (gD a.l i))) i).of.length -> gD (gD (AJ a.l.length λ (i : Nat) => BE
 (BK (gD a.l i))) i).of i_1 = gD (gD a.l i).of i_1) /\ (gD (AJ a.l.length λ (i : Nat) => BE (BK (gD a.l i))) i).ba = (gD a.l i).ba /\ (gD (AJ a.l.length λ (i : Nat) => BE (BK (gD a.l i))) i).mi = (gD a.l i).mi) /\
 (AJ a.l.length λ (i : Nat) => BE (BK (gD a.l i))).length < 4611686018427387904 /\ True) /\ (a.l.all λ (x : Wk) => KN x) = !decide (BN (λ (i : Nat) => !KN (gD (AJ a.l.length λ (i : Nat) => BE (BK (gD a.l
 i))) i)) (AJ a.l.length λ (i : Nat) => BE (BK (gD a.l i))).length 0 >= 0)) := by kernel_rfl
theorem BEP (a : MKw) (h : BG (PKw a)) : FnT Try.prog n_eW (C4Kw.xs a) (AK (C4Kw.L a)) (C4Kw.val a) (C4Kw.keep a) := JK (A := A4Kw) (ren := []) (fz := []) BEF (by kernel_rfl) (AH BIP AM) (by
 have h' : a.l.length < 4611686018427387904 /\ True := h
 show V4Kw a; rw [BFU]; simp only [BF, eq_self, implies_true, and_self, true_and, and_true, true_implies, forall_const, decide_eq_true_eq, decide_eq_false_iff_not, Int.toNat_natCast, dSpan_eSpan, dInt_eInt, AV, BH, BJ, BC, AZ, AX, AY, Nat.zero_add, Int.zero_sub, Nat.le_eq, Nat.succ_eq_add_one, Nat.add_one_le_iff, Bool.not_eq_true', Bool.not_eq_false', rng_length, AT, AP, ge_iff_le]
 rw [<- EO]
 exact ⟨h'.1, rfl⟩)
theorem BFX : AR Try.prog n_eW (C4Kw.spec d4Kw) := Ctr.spec_ok (C := C4Kw) BEP _
end Go.Bal
