/- TopOwed: every, of package share. Printed by genow.py. -/
import Derived.Test.YtgjkmndbkidgjaaGreatOwV
set_option linter.unusedVariables false
set_option linter.unusedSimpArgs false
namespace Go.Bal
open Go Go.Sym Go.Proofs
def allB (p : Nat -> Bool) : Nat -> Bool
 | 0 => true
 | n + 1 => allB p n && p n
theorem uR {p : Nat -> Bool} : ∀ {n : Nat}, allB p n = true ↔ ∀ i, i < n -> p i = true
 | 0 => by simp [allB]
 | n + 1 => by
  simp only [allB, Bool.and_eq_true, uR (n := n)]
  constructor
  ·intro h i hi
   by_cases he : i = n
   ·subst he; exact h.2
   ·exact h.1 i (by omega)
  ·exact λ h => ⟨λ i hi => h i (by omega), h n (by omega)⟩
theorem AEZ {p : Nat -> Bool} : ∀ {n k : Nat}, (0 <= BN p n k) ↔ ∃ i, k <= i /\ i < k + n /\ p i = true
 | 0, k => by simp [BN]; omega
 | n + 1, k => by
  simp only [BN]
  by_cases h : p k = true
  ·rw [if_pos h]
   constructor
   ·intro _; exact ⟨k, Nat.le_refl _, by omega, h⟩
   ·intro _; omega
  ·rw [if_neg h, AEZ (n := n) (k := k + 1)]
   constructor
   ·rintro ⟨i, h1, h2, h3⟩; exact ⟨i, by omega, by omega, h3⟩
   ·rintro ⟨i, h1, h2, h3⟩
    refine ⟨i, ?_, by omega, h3⟩
    by_cases he : i = k
    ·subst he; exact absurd h3 h
    ·omega
theorem ANH {p : Nat -> Bool} {n : Nat} : (!decide (0 <= BN (λ i => !p i) n 0)) = allB p n := by
 rw [Bool.eq_iff_iff, uR]
 simp only [Bool.not_eq_true', decide_eq_false_iff_not, AEZ, Nat.zero_le, Nat.zero_add, true_and]
 constructor
 ·intro h i hi
  cases hp : p i with
  | true => rfl
  | false => exact (h ⟨i, hi, by simp [hp]⟩).elim
 ·rintro h ⟨i, hi, hp⟩
  rw [h i hi] at hp; cases hp
theorem EO {α : Type} [Inhabited α] {p : α -> Bool} {l : List α} : (!decide (0 <= BN (λ i => !p (gD l i)) l.length 0)) = l.all p := by
 rw [ANH, Bool.eq_iff_iff, uR, List.all_eq_true]
 exact ⟨λ h x hx => by obtain ⟨i, hi, rfl⟩ := OW hx; exact h i hi, λ h i hi => h _ (ADP hi)⟩
def fvKp (q : One) : AVal := .fn (.func W5) [] []
def BKp (q : One) : AObj := .box [fvKp q]
structure EKp where
 q : One
 e : Pt
structure MKp where
 q : One
 l : List Pt
def C1Kp : Ctr := { ro := [100], α := EKp, xs := λ a => [.d (ePt a.e), .bptr 100 0], L := λ a => (100, BKp a.q) :: [], val := λ a => .bool (!Fe a.e), keep := λ a => (100, .live (BKp a.q)) :: [] }
def d1Kp : List AVal -> Heap -> Option (EKp × List (Nat × Nat) × List Nat)
 | [.d d, .bptr id _], H => some (⟨default, dPt d⟩, [(100, id)], [])
 | _, _ => none
def A1Kp : Ann := { ann 8 [(W5, APW)] with E := [100] }
def V1Kp (a : EKp) : Prop := BB Try.prog A1Kp AOS (AS AOS) (C1Kp.xs a) (AK (C1Kp.L a)) (C1Kp.val a) (C1Kp.keep a) [] []
theorem BED (a : EKp) : (V1Kp a) = ((!Fe a.e) = !Fe a.e) := by kernel_rfl
theorem BFO : AR Try.prog AAF (C1Kp.spec d1Kp) := EX C1Kp (λ _ => A1Kp) [] [] AZQ (λ _ => by kernel_rfl) (λ _ => AH ATI AM) (λ (a : EKp) h => by
 show V1Kp a; rw [BED]; try simp [wr, AP]) (λ _ => FK rfl rfl) _
def d2Kp : List AVal -> Heap -> Option (MKp × List (Nat × Nat) × List Nat)
 | [y, .fn _ _ [.bptr id _]], H => match HK y H with
  | some (n, g, f) => some (⟨default, AJ n λ i => dPt (g i)⟩, [(100, id)], f)
  | none => none
 | _, _ => none
def A2Kp (a : MKp) : Ann := { ann 19 [(AAF, C1Kp.spec d1Kp)] with E := [100], loops := λ id => if id = 2 then some [{ α := Nat, dflt := 0, T := λ k => ⟨[(0, .d (HP a.l)), (1, .fn (.func AAF) [] [.bptr 100 0]), (7, .int a.l.length), (8, .int k)], (100, .live (BKp a.q)) :: []⟩, inv := λ k => k <= a.l.length /\ BN (λ i => !Fe (gD a.l i)) a.l.length 0 = BN (λ i => !Fe (gD a.l i)) (a.l.length - k) k, meas := λ k => a.l.length - k }] else none }
def PKp (a : MKp) : List Prop := [a.l.length < 4611686018427387904 /\ True]
def C2Kp : Ctr := { ro := [100], α := MKp, xs := λ a => [.d (HP a.l), .fn (.func AAF) [] [.bptr 100 0]], L := λ a => (100, BKp a.q) :: [], val := λ a => .int (BN (λ i => !Fe (gD a.l i)) a.l.length 0), keep := λ a => (100, .live (BKp a.q)) :: [], pre := PKp }
def V2Kp (a : MKp) : Prop := BB Try.prog (A2Kp a) AAK (AS AAK) (C2Kp.xs a) (AK (C2Kp.L a)) (C2Kp.val a) (C2Kp.keep a) [] []
theorem BHQ (a : MKp) : (V2Kp a) = ((∃ (a_1 : Nat), (a.l.length = a.l.length /\ (∀ (i : Nat), i < a.l.length -> (gD a.l i).x = (gD a.l i).x /\ (gD a.l i).d = (gD a.l i).d) /\ (↑a.l.length : Int) = (↑a.l.length : Int) /\
 (↑a_1 : Int) = 0) /\ a_1 <= a.l.length /\ BN (λ (i : Nat) => !Fe (gD a.l i)) a.l.length 0 = BN (λ (i : Nat) => !Fe (gD a.l i)) (a.l.length - a_1) a_1) /\ ∀ (a_1 : Nat), a_1 <= a.l.length /\ BN (λ (i : Nat) => !Fe
 (gD a.l i)) a.l.length 0 = BN (λ (i : Nat) => !Fe (gD a.l i)) (a.l.length - a_1) a_1 -> bif decide ((↑a_1 : Int) < (↑a.l.length : Int)) then ((0 <= (↑a_1 : Int) /\ (↑a_1 : Int) < (↑a.l.length : Int)) /\ (gD a.l a_1).x =
 (gD a.l a_1).x /\ (gD a.l a_1).d = (gD a.l a_1).d) /\ bif !Fe (gD a.l a_1) then BN (λ (i : Nat) => !Fe (gD a.l i)) a.l.length 0 = (↑a_1 : Int) else ∃ (a_3 : Nat), (a.l.length = a.l.length /\ (∀ (i : Nat), i <
 a.l.length -> (gD a.l i).x = (gD a.l i).x /\ (gD a.l i).d = (gD a.l i).d) /\ (↑a.l.length : Int) = (↑a.l.length : Int) /\ (↑a_3 : Int) = IntKind.i64.wrap ((↑a_1 : Int) + 1)) /\ (a_3 <= a.l.length /\ BN (λ (i : Nat) => !Fe
 (gD a.l i)) a.l.length 0 = BN (λ (i : Nat) => !Fe (gD a.l i)) (a.l.length - a_3) a_3) /\ a.l.length - a_3 < a.l.length - a_1 else BN (λ (i : Nat) => !Fe (gD a.l i)) a.l.length 0 = -1) := by kernel_rfl
theorem p2Kp (a : MKp) (h : BG (PKp a)) : V2Kp a := by
 obtain ⟨h, hp⟩ : a.l.length < 4611686018427387904 /\ True := h
 rw [BHQ]
 simp only [BF, eq_self, implies_true, and_self, true_and, and_true, true_implies, forall_const, decide_eq_true_eq, decide_eq_false_iff_not, Int.toNat_natCast, dSpan_eSpan, dInt_eInt, AV, BH, BJ, BC, Nat.zero_add, Int.zero_sub, Nat.le_eq, Nat.succ_eq_add_one, Nat.add_one_le_iff, Bool.not_eq_true', Bool.not_eq_false', rng_length, AT, AP]
 refine ⟨⟨0, rfl, Nat.zero_le _, rfl⟩, λ k ⟨h1, h2⟩ => ⟨λ hlt => ?_, λ hge => ?_⟩⟩
 ·have hlt : k < a.l.length := by omega
  refine ⟨⟨by omega, by omega⟩, λ hp => ?_, λ hp => ⟨k + 1, (CE (by omega)).symm, ⟨by omega, ?_⟩, by omega⟩⟩
  ·rw [h2]; exact DJ hlt (by simpa using hp)
  ·rw [h2]; exact FZ hlt (by simpa using hp)
 ·rw [h2]; exact EK (by omega)
theorem BES : AR Try.prog ABI (C2Kp.spec d2Kp) := EX C2Kp A2Kp [] [] ANM (λ _ => by kernel_rfl) (λ _ => AH BFO AM) p2Kp (λ _ => FK rfl rfl) _
def C3Kp : Ctr := { C2Kp with val := λ (a : MKp) => .bool (decide (BN (λ i => !Fe (gD a.l i)) a.l.length 0 >= 0)) }
def d3Kp : List AVal -> Heap -> Option (C3Kp.α × List (Nat × Nat) × List Nat) := d2Kp
def A3Kp : Ann := { ann 9 [(ABI, C2Kp.spec d2Kp)] with E := [100] }
def V3Kp (a : MKp) : Prop := BB Try.prog A3Kp AOC (AS AOC) (C3Kp.xs a) (AK (C3Kp.L a)) (C3Kp.val a) (C3Kp.keep a) [] []
theorem BFD (a : MKp) : (V3Kp a) = (((AJ a.l.length λ (i : Nat) => gD a.l i).length = a.l.length /\ (∀ (i : Nat), i < (AJ a.l.length λ (i : Nat) => gD a.l i).length -> (gD (AJ a.l.length λ (i : Nat) => gD a.l i)
 i).x = (gD a.l i).x /\ (gD (AJ a.l.length λ (i : Nat) => gD a.l i) i).d = (gD a.l i).d) /\ (AJ a.l.length λ (i : Nat) => gD a.l i).length < 4611686018427387904 /\ True) /\ decide (BN (λ (i : Nat) => !Fe (gD a.l i))
 a.l.length 0 >= 0) = decide (BN (λ (i : Nat) => !Fe (gD (AJ a.l.length λ (i : Nat) => gD a.l i) i)) (AJ a.l.length λ (i : Nat) => gD a.l i).length 0 >= 0)) := by kernel_rfl
theorem BEG : AR Try.prog AMV (C3Kp.spec d3Kp) := Ctr.spec_ok (C := C3Kp) (λ (a : MKp) h => JK (A := A3Kp) (ren := []) (fz := []) BAM (by kernel_rfl) (AH BES AM) (by
 obtain ⟨h, hp⟩ : a.l.length < 4611686018427387904 /\ True := h
 show V3Kp a; rw [BFD]; simp [h, AP])) _
def d4Kp : List AVal -> Heap -> Option (MKp × List (Nat × Nat) × List Nat)
 | [y, .fn _ _ _], H => match HK y H with
  | some (n, g, f) => some (⟨default, AJ n λ i => dPt (g i)⟩, [], f)
  | none => none
 | _, _ => none
def A4Kp : Ann := { ann 9 [(AMV, C3Kp.spec d3Kp)] with E := [] }
def C4Kp : Ctr := { ro := [], α := MKp, xs := λ a => [.d (HP a.l), fvKp a.q], L := λ a => [], val := λ a => .bool (a.l.all λ x => Fe x), keep := λ a => [], pre := PKp }
def V4Kp (a : MKp) : Prop := BB Try.prog A4Kp F_eP (AS F_eP) (C4Kp.xs a) (AK (C4Kp.L a)) (C4Kp.val a) (C4Kp.keep a) [] []
theorem BFL (a : MKp) : (V4Kp a) = (((AJ a.l.length λ (i : Nat) => gD a.l i).length = a.l.length /\ (∀ (i : Nat), i < (AJ a.l.length λ (i : Nat) => gD a.l i).length -> (gD (AJ a.l.length λ (i : Nat) => gD a.l i)
 i).x = (gD a.l i).x /\ (gD (AJ a.l.length λ (i : Nat) => gD a.l i) i).d = (gD a.l i).d) /\ (AJ a.l.length λ (i : Nat) => gD a.l i).length < 4611686018427387904 /\ True) /\ (a.l.all λ (x : Pt) => Fe x) = !decide (BN
 (λ (i : Nat) => !Fe (gD (AJ a.l.length λ (i : Nat) => gD a.l i) i)) (AJ a.l.length λ (i : Nat) => gD a.l i).length 0 >= 0)) := by kernel_rfl
theorem BIC (a : MKp) (h : BG (PKp a)) : FnT Try.prog n_eP (C4Kp.xs a) (AK (C4Kp.L a)) (C4Kp.val a) (C4Kp.keep a) := JK (A := A4Kp) (ren := []) (fz := []) BDL (by kernel_rfl) (AH BEG AM) (by
 have h' : a.l.length < 4611686018427387904 /\ True := h
 show V4Kp a; rw [BFL]; simp only [BF, eq_self, implies_true, and_self, true_and, and_true, true_implies, forall_const, decide_eq_true_eq, decide_eq_false_iff_not, Int.toNat_natCast, dSpan_eSpan, dInt_eInt, AV, BH, BJ, BC, Nat.zero_add, Int.zero_sub, Nat.le_eq, Nat.succ_eq_add_one, Nat.add_one_le_iff, Bool.not_eq_true', Bool.not_eq_false', rng_length, AT, AP, ge_iff_le]
 rw [<- EO]
 exact ⟨h'.1, rfl⟩)
theorem BKA : AR Try.prog n_eP (C4Kp.spec d4Kp) := Ctr.spec_ok (C := C4Kp) BIC _
def fvKy (q : One) : AVal := .fn (.func iU) [] []
def BKy (q : One) : AObj := .box [fvKy q]
structure EKy where
 q : One
 e : Yr
structure MKy where
 q : One
 l : List Yr
def C1Ky : Ctr := { ro := [100], α := EKy, xs := λ a => [.d (eYr a.e), .bptr 100 0], L := λ a => (100, BKy a.q) :: [], val := λ a => .bool (!YQ a.e), keep := λ a => (100, .live (BKy a.q)) :: [] }
def d1Ky : List AVal -> Heap -> Option (EKy × List (Nat × Nat) × List Nat)
 | [.d d, .bptr id _], H => some (⟨default, dYr d⟩, [(100, id)], [])
 | _, _ => none
def A1Ky : Ann := { ann 8 [(iU, AHR)] with E := [100] }
def V1Ky (a : EKy) : Prop := BB Try.prog A1Ky AMW (AS AMW) (C1Ky.xs a) (AK (C1Ky.L a)) (C1Ky.val a) (C1Ky.keep a) [] []
theorem BFR (a : EKy) : (V1Ky a) = ((!YQ a.e) = !YQ a.e) := by kernel_rfl
theorem BDE : AR Try.prog AAL (C1Ky.spec d1Ky) := EX C1Ky (λ _ => A1Ky) [] [] AYM (λ _ => by kernel_rfl) (λ _ => AH ALH AM) (λ (a : EKy) h => by
 show V1Ky a; rw [BFR]; try simp [wr, AP]) (λ _ => FK rfl rfl) _
def d2Ky : List AVal -> Heap -> Option (MKy × List (Nat × Nat) × List Nat)
 | [y, .fn _ _ [.bptr id _]], H => match HK y H with
  | some (n, g, f) => some (⟨default, AJ n λ i => dYr (g i)⟩, [(100, id)], f)
  | none => none
 | _, _ => none
def A2Ky (a : MKy) : Ann := { ann 19 [(AAL, C1Ky.spec d1Ky)] with E := [100], loops := λ id => if id = 2 then some [{ α := Nat, dflt := 0, T := λ k => ⟨[(0, .d (gL a.l)), (1, .fn (.func AAL) [] [.bptr 100 0]), (7, .int a.l.length), (8, .int k)], (100, .live (BKy a.q)) :: []⟩, inv := λ k => k <= a.l.length /\ BN (λ i => !YQ (gD a.l i)) a.l.length 0 = BN (λ i => !YQ (gD a.l i)) (a.l.length - k) k, meas := λ k => a.l.length - k }] else none }
def PKy (a : MKy) : List Prop := [a.l.length < 4611686018427387904 /\ True]
def C2Ky : Ctr := { ro := [100], α := MKy, xs := λ a => [.d (gL a.l), .fn (.func AAL) [] [.bptr 100 0]], L := λ a => (100, BKy a.q) :: [], val := λ a => .int (BN (λ i => !YQ (gD a.l i)) a.l.length 0), keep := λ a => (100, .live (BKy a.q)) :: [], pre := PKy }
def V2Ky (a : MKy) : Prop := BB Try.prog (A2Ky a) AMP (AS AMP) (C2Ky.xs a) (AK (C2Ky.L a)) (C2Ky.val a) (C2Ky.keep a) [] []
theorem BGI (a : MKy) : (V2Ky a) = ((∃ (a_1 : Nat), (a.l.length = a.l.length /\ (∀ (i : Nat), i < a.l.length -> (gD a.l i).i.lo = (gD a.l i).i.lo /\ (gD a.l i).i.hi = (gD a.l i).i.hi /\ (gD a.l i).d.lo = (gD a.l i).d.lo /\
 (gD a.l i).d.hi = (gD a.l i).d.hi /\ (gD a.l i).sp = (gD a.l i).sp) /\ (↑a.l.length : Int) = (↑a.l.length : Int) /\ (↑a_1 : Int) = 0) /\ a_1 <= a.l.length /\ BN (λ (i : Nat) => !YQ (gD a.l i)) a.l.length 0 = BN (λ (i :
 Nat) => !YQ (gD a.l i)) (a.l.length - a_1) a_1) /\ ∀ (a_1 : Nat), a_1 <= a.l.length /\ BN (λ (i : Nat) => !YQ (gD a.l i)) a.l.length 0 = BN (λ (i : Nat) => !YQ (gD a.l i)) (a.l.length - a_1) a_1 -> bif decide ((↑a_1
 : Int) < (↑a.l.length : Int)) then ((0 <= (↑a_1 : Int) /\ (↑a_1 : Int) < (↑a.l.length : Int)) /\ (gD a.l a_1).i.lo = (gD a.l a_1).i.lo /\ (gD a.l a_1).i.hi = (gD a.l a_1).i.hi /\ (gD a.l a_1).d.lo = (gD a.l a_1).d.lo /\ (gD
 a.l a_1).d.hi = (gD a.l a_1).d.hi /\ (gD a.l a_1).sp = (gD a.l a_1).sp) /\ bif !YQ (gD a.l a_1) then BN (λ (i : Nat) => !YQ (gD a.l i)) a.l.length 0 = (↑a_1 : Int) else ∃ (a_3 : Nat), (a.l.length = a.l.length /\ (∀ (i
 : Nat), i < a.l.length -> (gD a.l i).i.lo = (gD a.l i).i.lo /\ (gD a.l i).i.hi = (gD a.l i).i.hi /\ (gD a.l i).d.lo = (gD a.l i).d.lo /\ (gD a.l i).d.hi = (gD a.l i).d.hi /\ (gD a.l i).sp = (gD a.l i).sp) /\ (↑a.l.length :
 Int) = (↑a.l.length : Int) /\ (↑a_3 : Int) = IntKind.i64.wrap ((↑a_1 : Int) + 1)) /\ (a_3 <= a.l.length /\ BN (λ (i : Nat) => !YQ (gD a.l i)) a.l.length 0 = BN (λ (i : Nat) => !YQ (gD a.l i)) (a.l.length - a_3) a_3)
 /\ a.l.length - a_3 < a.l.length - a_1 else BN (λ (i : Nat) => !YQ (gD a.l i)) a.l.length 0 = -1) := by kernel_rfl
theorem p2Ky (a : MKy) (h : BG (PKy a)) : V2Ky a := by
 obtain ⟨h, hp⟩ : a.l.length < 4611686018427387904 /\ True := h
 rw [BGI]
 simp only [BF, eq_self, implies_true, and_self, true_and, and_true, true_implies, forall_const, decide_eq_true_eq, decide_eq_false_iff_not, Int.toNat_natCast, dSpan_eSpan, dInt_eInt, AV, BH, BJ, BC, Nat.zero_add, Int.zero_sub, Nat.le_eq, Nat.succ_eq_add_one, Nat.add_one_le_iff, Bool.not_eq_true', Bool.not_eq_false', rng_length, AT, AP]
 refine ⟨⟨0, rfl, Nat.zero_le _, rfl⟩, λ k ⟨h1, h2⟩ => ⟨λ hlt => ?_, λ hge => ?_⟩⟩
 ·have hlt : k < a.l.length := by omega
  refine ⟨⟨by omega, by omega⟩, λ hp => ?_, λ hp => ⟨k + 1, (CE (by omega)).symm, ⟨by omega, ?_⟩, by omega⟩⟩
  ·rw [h2]; exact DJ hlt (by simpa using hp)
  ·rw [h2]; exact FZ hlt (by simpa using hp)
 ·rw [h2]; exact EK (by omega)
theorem BJI : AR Try.prog ARO (C2Ky.spec d2Ky) := EX C2Ky A2Ky [] [] BBB (λ _ => by kernel_rfl) (λ _ => AH BDE AM) p2Ky (λ _ => FK rfl rfl) _
def C3Ky : Ctr := { C2Ky with val := λ (a : MKy) => .bool (decide (BN (λ i => !YQ (gD a.l i)) a.l.length 0 >= 0)) }
def d3Ky : List AVal -> Heap -> Option (C3Ky.α × List (Nat × Nat) × List Nat) := d2Ky
def A3Ky : Ann := { ann 9 [(ARO, C2Ky.spec d2Ky)] with E := [100] }
def V3Ky (a : MKy) : Prop := BB Try.prog A3Ky ALN (AS ALN) (C3Ky.xs a) (AK (C3Ky.L a)) (C3Ky.val a) (C3Ky.keep a) [] []
theorem BFF (a : MKy) : (V3Ky a) = (((AJ a.l.length λ (i : Nat) => gD a.l i).length = a.l.length /\ (∀ (i : Nat), i < (AJ a.l.length λ (i : Nat) => gD a.l i).length -> (gD (AJ a.l.length λ (i : Nat) => gD a.l i)
 i).i.lo = (gD a.l i).i.lo /\ (gD (AJ a.l.length λ (i : Nat) => gD a.l i) i).i.hi = (gD a.l i).i.hi /\ (gD (AJ a.l.length λ (i : Nat) => gD a.l i) i).d.lo = (gD a.l i).d.lo /\ (gD (AJ a.l.length λ (i : Nat) => gD
 a.l i) i).d.hi = (gD a.l i).d.hi /\ (gD (AJ a.l.length λ (i : Nat) => gD a.l i) i).sp = (gD a.l i).sp) /\ (AJ a.l.length λ (i : Nat) => gD a.l i).length < 4611686018427387904 /\ True) /\ decide (BN (λ (i : Nat) =>
 !YQ (gD a.l i)) a.l.length 0 >= 0) = decide (BN (λ (i : Nat) => !YQ (gD (AJ a.l.length λ (i : Nat) => gD a.l i) i)) (AJ a.l.length λ (i : Nat) => gD a.l i).length 0 >= 0)) := by kernel_rfl
theorem BID : AR Try.prog ALP (C3Ky.spec d3Ky) := Ctr.spec_ok (C := C3Ky) (λ (a : MKy) h => JK (A := A3Ky) (ren := []) (fz := []) BBI (by kernel_rfl) (AH BJI AM) (by
 obtain ⟨h, hp⟩ : a.l.length < 4611686018427387904 /\ True := h
 show V3Ky a; rw [BFF]; simp [h, AP])) _
def d4Ky : List AVal -> Heap -> Option (MKy × List (Nat × Nat) × List Nat)
 | [y, .fn _ _ _], H => match HK y H with
  | some (n, g, f) => some (⟨default, AJ n λ i => dYr (g i)⟩, [], f)
  | none => none
 | _, _ => none
def A4Ky : Ann := { ann 9 [(ALP, C3Ky.spec d3Ky)] with E := [] }
def C4Ky : Ctr := { ro := [], α := MKy, xs := λ a => [.d (gL a.l), fvKy a.q], L := λ a => [], val := λ a => .bool (a.l.all λ x => YQ x), keep := λ a => [], pre := PKy }
def V4Ky (a : MKy) : Prop := BB Try.prog A4Ky F_eY (AS F_eY) (C4Ky.xs a) (AK (C4Ky.L a)) (C4Ky.val a) (C4Ky.keep a) [] []
theorem BGR (a : MKy) : (V4Ky a) = (((AJ a.l.length λ (i : Nat) => gD a.l i).length = a.l.length /\ (∀ (i : Nat), i < (AJ a.l.length λ (i : Nat) => gD a.l i).length -> (gD (AJ a.l.length λ (i : Nat) => gD a.l i)
 i).i.lo = (gD a.l i).i.lo /\ (gD (AJ a.l.length λ (i : Nat) => gD a.l i) i).i.hi = (gD a.l i).i.hi /\ (gD (AJ a.l.length λ (i : Nat) => gD a.l i) i).d.lo = (gD a.l i).d.lo /\ (gD (AJ a.l.length λ (i : Nat) => gD
 a.l i) i).d.hi = (gD a.l i).d.hi /\ (gD (AJ a.l.length λ (i : Nat) => gD a.l i) i).sp = (gD a.l i).sp) /\ (AJ a.l.length λ (i : Nat) => gD a.l i).length < 4611686018427387904 /\ True) /\ (a.l.all λ (x : Yr) => YQ x)
 = !decide (BN (λ (i : Nat) => !YQ (gD (AJ a.l.length λ (i : Nat) => gD a.l i) i)) (AJ a.l.length λ (i : Nat) => gD a.l i).length 0 >= 0)) := by kernel_rfl
theorem BFZ (a : MKy) (h : BG (PKy a)) : FnT Try.prog n_eY (C4Ky.xs a) (AK (C4Ky.L a)) (C4Ky.val a) (C4Ky.keep a) := JK (A := A4Ky) (ren := []) (fz := []) BEQ (by kernel_rfl) (AH BID AM) (by
 have h' : a.l.length < 4611686018427387904 /\ True := h
 show V4Ky a; rw [BGR]; simp only [BF, eq_self, implies_true, and_self, true_and, and_true, true_implies, forall_const, decide_eq_true_eq, decide_eq_false_iff_not, Int.toNat_natCast, dSpan_eSpan, dInt_eInt, AV, BH, BJ, BC, Nat.zero_add, Int.zero_sub, Nat.le_eq, Nat.succ_eq_add_one, Nat.add_one_le_iff, Bool.not_eq_true', Bool.not_eq_false', rng_length, AT, AP, ge_iff_le]
 rw [<- EO]
 exact ⟨h'.1, rfl⟩)
theorem BGV : AR Try.prog n_eY (C4Ky.spec d4Ky) := Ctr.spec_ok (C := C4Ky) BFZ _
end Go.Bal
