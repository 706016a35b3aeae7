/- TopOwed: is a refusal among those that there were (package crew). Printed by genow.py. -/
import Derived.Test.YtgjkmndbkidgjaaGreatOwS
set_option linter.unusedVariables false
set_option linter.unusedSimpArgs false
namespace Go.Bal
open Go.Sym Go
structure Rf where
 p : Int
 s : Int
 deriving Inhabited, DecidableEq
def eRf (x : Rf) : DVal := .agg [BM x.p, BM x.s]
def dRf : DVal -> Rf
 | .agg [a, b] => ⟨CR a, CR b⟩
 | _ => default
def eRfs (l : List Rf) : DVal := lst 2 l.length λ i => eRf (gD l i)
end Go.Bal
namespace Go.Bal.DL
open Go.Sym Go
theorem f1 (a b : Int) : dRf (.agg [BM a, BM b]) = ⟨a, b⟩ := rfl
theorem f2 (a b : Int) : dRf (.agg [.v (.int .i64 a), .v (.int .i64 b)]) = ⟨a, b⟩ := rfl
theorem f3 (x : Rf) : dRf (eRf x) = x := rfl
theorem f4 (x : Rf) : Rf.mk x.p x.s = x := rfl
end Go.Bal.DL
namespace Go.Bal
open Go Go.Sym Go.Proofs
def L7 (q e : Rf) : Bool := decide (e = q)
structure RfE where
 q : Rf
 e : Rf
def rfL (q : Rf) : List (Nat × AObj) := [(101, .box [.int q.p]), (102, .box [.int q.s])]
def rfK (q : Rf) : List (Nat × HCell) := [(101, .live (.box [.int q.p])), (102, .live (.box [.int q.s]))]
def C_st11 : Ctr := { ro := [101, 102], α := RfE, xs := λ a => [.d (eRf a.e), .bptr 101 0, .bptr 102 0], L := λ a => rfL a.q, val := λ a => .bool (L7 a.q a.e), keep := λ a => rfK a.q }
def APG : List AVal -> Heap -> Option (RfE × List (Nat × Nat) × List Nat)
 | [.d d, .bptr j _, .bptr k _], H => match wS H j, wS H k with
  | some p, some s => some (⟨⟨p, s⟩, dRf d⟩, [(101, j), (102, k)], [])
  | _, _ => none
 | _, _ => none
def AKX : Ann := { ann 10 [] with E := [101, 102] }
def ALU (a : RfE) : Prop := BB Try.prog AKX Pp (AS Pp) (C_st11.xs a) (AK (C_st11.L a)) (C_st11.val a) (C_st11.keep a) [] []
theorem ATQ (a : RfE) : (ALU a) = (L7 a.q a.e = (a.e.p == a.q.p && (a.e.s == a.q.s && true)) /\ a.q.p = a.q.p /\ a.q.s = a.q.s) := by kernel_rfl
theorem BCF (q e : Rf) : L7 q e = (e.p == q.p && e.s == q.s) := by
 cases q; cases e; simp [L7, Bool.beq_eq_decide_eq]
theorem ATD : AR Try.prog UZ (C_st11.spec APG) := EX C_st11 (λ _ => AKX) [] [] ABK (λ _ => by kernel_rfl) (λ _ => AM) (λ (a : RfE) h => by
 show ALU a; rw [ATQ]; simp only [BF, eq_self, implies_true, and_self, true_and, and_true, true_implies, forall_const, decide_eq_true_eq, decide_eq_false_iff_not, Int.toNat_natCast, dSpan_eSpan, dInt_eInt, AV, BH, BJ, BC, AZ, AX, AY, Nat.zero_add, Int.zero_sub, Nat.le_eq, Nat.succ_eq_add_one, Nat.add_one_le_iff, Bool.not_eq_true', Bool.not_eq_false', rng_length, AT, AP, BCF]; simp) (λ _ => FK rfl rfl) _
def LXKx (q : Rf) : List (Nat × AObj) := rfL q
def KXKx (q : Rf) : List (Nat × HCell) := rfK q
def fvKx (q : Rf) : AVal := .fn (.func UZ) [] [.bptr 101 0, .bptr 102 0]
structure MKx where
 q : Rf
 l : List Rf
def d2Kx : List AVal -> Heap -> Option (MKx × List (Nat × Nat) × List Nat)
 | [y, .fn _ _ [.bptr j _, .bptr k _]], H => match HK y H with
  | some (n, g, f) => match wS H j, wS H k with
   | some p, some s => some (⟨⟨p, s⟩, AJ n λ i => dRf (g i)⟩, [(101, j), (102, k)], f)
   | _, _ => none
  | none => none
 | _, _ => none
def A2Kx (a : MKx) : Ann := { ann 19 [(UZ, C_st11.spec APG)] with E := [101, 102], loops := λ id => if id = 2 then some [{ α := Nat, dflt := 0, T := λ k => ⟨[(0, .d (eRfs a.l)), (1, fvKx a.q), (7, .int a.l.length), (8, .int k)], KXKx a.q⟩, inv := λ k => k <= a.l.length /\ BN (λ i => L7 a.q (gD a.l i)) a.l.length 0 = BN (λ i => L7 a.q (gD a.l i)) (a.l.length - k) k, meas := λ k => a.l.length - k }] else none }
def PKx (a : MKx) : List Prop := [a.l.length < 4611686018427387904 /\ True]
def C2Kx : Ctr := { ro := [101, 102], α := MKx, xs := λ a => [.d (eRfs a.l), fvKx a.q], L := λ a => LXKx a.q, val := λ a => .int (BN (λ i => L7 a.q (gD a.l i)) a.l.length 0), keep := λ a => KXKx a.q, pre := PKx }
def V2Kx (a : MKx) : Prop := BB Try.prog (A2Kx a) ARX (AS ARX) (C2Kx.xs a) (AK (C2Kx.L a)) (C2Kx.val a) (C2Kx.keep a) [] []
theorem BGX (a : MKx) : (V2Kx a) = ((∃ (a_1 : Nat), (a.l.length = a.l.length /\ (∀ (i : Nat), i < a.l.length -> (gD a.l i).p = (gD a.l i).p /\ (gD a.l i).s = (gD a.l i).s) /\ (↑a.l.length : Int) = (↑a.l.length : Int) /\
 (↑a_1 : Int) = 0 /\ a.q.p = a.q.p /\ a.q.s = a.q.s) /\ a_1 <= a.l.length /\ BN (λ (i : Nat) => L7 a.q (gD a.l i)) a.l.length 0 = BN (λ (i : Nat) => L7 a.q (gD a.l i)) (a.l.length - a_1) a_1) /\ ∀ (a_1 : Nat), a_1 <=
 a.l.length /\ BN (λ (i : Nat) => L7 a.q (gD a.l i)) a.l.length 0 = BN (λ (i : Nat) => L7 a.q (gD a.l i)) (a.l.length - a_1) a_1 -> bif decide ((↑a_1 : Int) < (↑a.l.length : Int)) then ((0 <= (↑a_1 : Int) /\ (↑a_1 :
 Int) < (↑a.l.length : Int)) /\ (gD a.l a_1).p = (gD a.l a_1).p /\ (gD a.l a_1).s = (gD a.l a_1).s /\ a.q.p = a.q.p /\ a.q.s = a.q.s /\ a.q.p = a.q.p /\ a.q.s = a.q.s) /\ bif L7 a.q (gD a.l a_1) then BN (λ (i : Nat) => L7
 a.q (gD a.l i)) a.l.length 0 = (↑a_1 : Int) /\ a.q.p = a.q.p /\ a.q.s = a.q.s else ∃ (a_3 : Nat), (a.l.length = a.l.length /\ (∀ (i : Nat), i < a.l.length -> (gD a.l i).p = (gD a.l i).p /\ (gD a.l i).s = (gD a.l i).s) /\
 (↑a.l.length : Int) = (↑a.l.length : Int) /\ (↑a_3 : Int) = IntKind.i64.wrap ((↑a_1 : Int) + 1) /\ a.q.p = a.q.p /\ a.q.s = a.q.s) /\ (a_3 <= a.l.length /\ BN (λ (i : Nat) => L7 a.q (gD a.l i)) a.l.length 0 = BN (λ (i :
 Nat) => L7 a.q (gD a.l i)) (a.l.length - a_3) a_3) /\ a.l.length - a_3 < a.l.length - a_1 else BN (λ (i : Nat) => L7 a.q (gD a.l i)) a.l.length 0 = -1 /\ a.q.p = a.q.p /\ a.q.s = a.q.s) := by kernel_rfl
theorem p2Kx (a : MKx) (h : BG (PKx a)) : V2Kx a := by
 obtain ⟨h, hp⟩ : a.l.length < 4611686018427387904 /\ True := h
 rw [BGX]
 simp only [BF, eq_self, implies_true, and_self, true_and, and_true, true_implies, forall_const, decide_eq_true_eq, decide_eq_false_iff_not, Int.toNat_natCast, dSpan_eSpan, dInt_eInt, AV, BH, BJ, BC, AZ, AX, AY, Nat.zero_add, Int.zero_sub, Nat.le_eq, Nat.succ_eq_add_one, Nat.add_one_le_iff, Bool.not_eq_true', Bool.not_eq_false', rng_length, AT, AP]
 refine ⟨⟨0, rfl, Nat.zero_le _, rfl⟩, λ k ⟨h1, h2⟩ => ⟨λ hlt => ?_, λ hge => ?_⟩⟩
 ·have hlt : k < a.l.length := by omega
  refine ⟨by omega, λ hp => ?_, λ hp => ⟨k + 1, (CE (by omega)).symm, ⟨by omega, ?_⟩, by omega⟩⟩
  ·rw [h2]; exact DJ hlt (by simpa using hp)
  ·rw [h2]; exact FZ hlt (by simpa using hp)
 ·rw [h2]; exact EK (by omega)
theorem BCX : AR Try.prog AQT (C2Kx.spec d2Kx) := EX C2Kx A2Kx [] [] BBF (λ _ => by kernel_rfl) (λ _ => AH ATD AM) p2Kx (λ _ => FK rfl rfl) _
def C3Kx : Ctr := { C2Kx with val := λ (a : MKx) => .bool (decide (BN (λ i => L7 a.q (gD a.l i)) a.l.length 0 >= 0)) }
def d3Kx : List AVal -> Heap -> Option (C3Kx.α × List (Nat × Nat) × List Nat) := d2Kx
def A3Kx : Ann := { ann 9 [(AQT, C2Kx.spec d2Kx)] with E := [101, 102] }
def V3Kx (a : MKx) : Prop := BB Try.prog A3Kx APM (AS APM) (C3Kx.xs a) (AK (C3Kx.L a)) (C3Kx.val a) (C3Kx.keep a) [] []
theorem BDJ (a : MKx) : (V3Kx a) = (((AJ a.l.length λ (i : Nat) => gD a.l i).length = a.l.length /\ (∀ (i : Nat), i < (AJ a.l.length λ (i : Nat) => gD a.l i).length -> (gD (AJ a.l.length λ (i : Nat) => gD a.l i)
 i).p = (gD a.l i).p /\ (gD (AJ a.l.length λ (i : Nat) => gD a.l i) i).s = (gD a.l i).s) /\ a.q.p = a.q.p /\ a.q.s = a.q.s /\ a.q.p = a.q.p /\ a.q.s = a.q.s /\ (AJ a.l.length λ (i : Nat) => gD a.l i).length <
 4611686018427387904 /\ True) /\ decide (BN (λ (i : Nat) => L7 a.q (gD a.l i)) a.l.length 0 >= 0) = decide (BN (λ (i : Nat) => L7 a.q (gD (AJ a.l.length λ (i : Nat) => gD a.l i) i)) (AJ a.l.length λ (i : Nat)
 => gD a.l i).length 0 >= 0) /\ a.q.p = a.q.p /\ a.q.s = a.q.s) := by kernel_rfl
theorem ANV : AR Try.prog ANW (C3Kx.spec d3Kx) := Ctr.spec_ok (C := C3Kx) (λ (a : MKx) h => JK (A := A3Kx) (ren := []) (fz := []) BCP (by kernel_rfl) (AH BCX AM) (by
 obtain ⟨h, hp⟩ : a.l.length < 4611686018427387904 /\ True := h
 show V3Kx a; rw [BDJ]; simp only [BF, eq_self, implies_true, and_self, true_and, and_true, true_implies, forall_const, decide_eq_true_eq, decide_eq_false_iff_not, Int.toNat_natCast, dSpan_eSpan, dInt_eInt, AV, BH, BJ, BC, AZ, AX, AY, Nat.zero_add, Int.zero_sub, Nat.le_eq, Nat.succ_eq_add_one, Nat.add_one_le_iff, Bool.not_eq_true', Bool.not_eq_false', rng_length, AT, AP]; exact h)) _
end Go.Bal
