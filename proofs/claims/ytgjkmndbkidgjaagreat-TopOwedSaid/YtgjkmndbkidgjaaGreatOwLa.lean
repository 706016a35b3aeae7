/- TopOwed: copies of years; Freeze in both cases. -/
import Derived.Test.YtgjkmndbkidgjaaGreatOwZ
set_option linter.unusedVariables false
set_option linter.unusedSimpArgs false
namespace Go.Bal
open Go Go.Sym Go.Proofs
def C_cpY : Ctr := { α := List Yr, xs := λ l => [.d (gL l)], L := λ _ => [], val := λ l => .own 0 5 0 l.length, keep := λ l => [(0, .live (rowY l))], pre := λ l => [0 < l.length /\ l.length < 1073741824] }
def AVN : List AVal -> Heap -> Option (List Yr × List (Nat × Nat) × List Nat)
 | [y], H => match dYrs y H with
  | some (l, f) => some (l, [], f)
  | none => none
 | _, _ => none
def AVR : Ann := { ann 7 [] with mt := λ id => id == 2 }
def AVL (l : List Yr) : Prop := BB Try.prog AVR H7 (AS H7) (C_cpY.xs l) (AK []) (C_cpY.val l) (C_cpY.keep l) [(0, 3032)] []
theorem BAR (l : List Yr) : (AVL l) = (((True /\ (0 < 0 -> 0 = 5)) /\ (True /\ (0 < l.length -> 5 = 5)) /\ (true = true -> 0 < l.length) /\ 0 + l.length <= 9223372036854775807 /\ (0 + l.length) * 40 <= 140737488355328) /\ 0 = 0
 /\ l.length = 0 + l.length /\ l.length = 0 + l.length /\ ∀ (i : Nat), i < l.length -> (gD l i).i.lo = (gD l (i - 0)).i.lo /\ (gD l i).i.hi = (gD l (i - 0)).i.hi /\ (gD l i).d.lo = (gD l (i - 0)).d.lo /\ (gD l i).d.hi = (gD l (i
 - 0)).d.hi /\ (gD l i).sp = (gD l (i - 0)).sp) := by kernel_rfl
def frB (a : FA) : Bool := CK (gD a.l (a.l.length - 1)).of (gD a.v 0)
def N7 (a : FA) : List Int := bif frB a then [] else DG (SK a.lv) a.l.length
def rP (a : FA) : Int := bif frB a then 5 else 0
structure FrOk (a : FA) : Prop where
 n : frB a = true -> FnOk a
 z : frB a = false -> FzOk a
def nilI : List Int := []
def AQC (a : FA) : Prop := BB Try.prog (ARQ a) ZJ (AS ZJ) (xFA a) (AK []) (.tup [.d (AF nilI), .int 5]) [] [] []
theorem ASP (a : FA) : (AQC a) = (((AJ a.l.length λ (i : Nat) => BE (BK (gD a.l i))).length = a.l.length /\ (∀ (i : Nat), i < (AJ a.l.length λ (i : Nat) => BE (BK (gD a.l i))).length -> (gD (AJ a.l.length
 λ (i : Nat) => BE (BK (gD a.l i))) i).of.length = (gD a.l i).of.length /\ (∀ (i_1 : Nat), i_1 < (gD (AJ a.l.length λ (i : Nat) => BE (BK (gD a.l i))) i).of.length -> gD (gD (AJ a.l.length λ (i : Nat) => BE
 (BK (gD a.l i))) i).of i_1 = gD (gD a.l i).of i_1) /\ (gD (AJ a.l.length λ (i : Nat) => BE (BK (gD a.l i))) i).ba = (gD a.l i).ba /\ (gD (AJ a.l.length λ (i : Nat) => BE (BK (gD a.l i))) i).mi = (gD a.l i).mi) /\
 (AJ a.v.length λ (i : Nat) => gD a.v i).length = a.v.length /\ (∀ (i : Nat), i < (AJ a.v.length λ (i : Nat) => gD a.v i).length -> gD (AJ a.v.length λ (i : Nat) => gD a.v i) i = gD a.v i) /\ wr ((↑(AJ a.l.length
 λ (i : Nat) => BE (BK (gD a.l i))).length : Int) - (1 : Int)) = wr ((↑a.l.length : Int) - (1 : Int)) /\ FnOk (FA.mk a.f (AJ a.l.length λ (i : Nat) => BE (BK (gD a.l i))) (AJ a.v.length λ (i : Nat) => gD a.v
 i))) /\ (0 : Nat) = (0 : Nat) /\ (0 : Nat) = (0 : Nat) /\ Int.ofNat (5 : Nat) = Int.ofNat (5 : Nat)) := by kernel_rfl
def C_FrzX : Ctr := { α := FA, xs := xFA, L := λ _ => [], val := λ a => .tup [.d (AF (N7 a)), .int (rP a)], keep := λ _ => [], pre := λ a => [FrOk a] }
theorem BAQ : AR Try.prog W8 (C_cpY.spec AVN) := EX C_cpY (λ _ => AVR) [(0, 3032)] [] AKT (λ _ => by kernel_rfl) (λ _ => AM) (λ (l : List Yr) h => by
 show AVL l; rw [BAR]; simp only [BF, eq_self, implies_true, and_self, true_and, and_true, true_implies, forall_const, decide_eq_true_eq, decide_eq_false_iff_not, Int.toNat_natCast, dSpan_eSpan, dInt_eInt, AV, BH, BJ, BC, AZ, AX, AY, Nat.zero_add, Int.zero_sub, Nat.le_eq, Nat.succ_eq_add_one, Nat.add_one_le_iff, Bool.not_eq_true', Bool.not_eq_false', rng_length, AT, AP]
 obtain ⟨h1, h2⟩ : 0 < l.length /\ l.length < 1073741824 := h
 exact ⟨⟨by omega, h1, by omega, by omega⟩, λ _ _ => ⟨rfl, rfl, rfl, rfl, rfl⟩⟩) (λ _ => FK rfl rfl) _
theorem ASX (f : Nat) : AR Try.prog Xd (C_FrzX.spec (d_FA f)) := okT C_FrzX (λ (a : FA) (h : FrOk a) => by
 show FnT Try.prog Xd (xFA a) (AK []) (.tup [.d (AF (N7 a)), .int (rP a)]) []
 cases hb : frB a
 ·have e1 : N7 a = DG (SK a.lv) a.l.length := by unfold N7; rw [hb]; rfl
  have e2 : rP a = 0 := by unfold rP; rw [hb]; rfl
  rw [e1, e2]
  exact JK (A := AXK a) (ren := []) (fz := [205]) xS (by kernel_rfl) (AH (ATH a.f) (AH (AQB a.f) (AH AAN AM))) (BJG a (h.z hb))
 ·have e1 : N7 a = nilI := by unfold N7; rw [hb]; rfl
  have e2 : rP a = 5 := by unfold rP; rw [hb]; rfl
  rw [e1, e2]
  exact JK (A := ARQ a) (ren := []) (fz := []) xS (by kernel_rfl) (AH (AON a.f) AM) (by
   show AQC a; rw [ASP]; simp only [BF, eq_self, implies_true, and_self, true_and, and_true, true_implies, forall_const, decide_eq_true_eq, decide_eq_false_iff_not, Int.toNat_natCast, dSpan_eSpan, dInt_eInt, AV, BH, BJ, BC, AZ, AX, AY, Nat.zero_add, Int.zero_sub, Nat.le_eq, Nat.succ_eq_add_one, Nat.add_one_le_iff, Bool.not_eq_true', Bool.not_eq_false', rng_length, AT, AP]; exact h.n hb)) _
end Go.Bal
