/- TopOwed: claims that are right (package share). Printed by genow.py. -/
import Derived.Test.YtgjkmndbkidgjaaGreatOwW
set_option linter.unusedVariables false
set_option linter.unusedSimpArgs false
namespace Go.Bal
open Go Go.Sym Go.Proofs
def dH (n : Int) : Bool := HO n 1 1000000
def AOJ := pD dI1 λ x => .bool (dH x)
def ARM (x : Int) : Prop := BB Try.prog (ann 5 [(Ar, WB)]) AGL (AS AGL) (xI1 x) (AK []) (.bool (dH x)) [] [] []
theorem ATG (x : Int) : (ARM x) = (dH x = HO x 1 1000000) := by kernel_rfl
theorem ASR : AR Try.prog T8 AOJ := JO xI1 hI1 λ x _ => JK (A := ann 5 [(Ar, WB)]) (ren := []) (fz := []) ATS (by kernel_rfl) (AH Nx AM) (by
 show ARM x; rw [ATG]; rfl)
def fvKz (q : One) : AVal := .fn (.func T8) [] []
def BKz (q : One) : AObj := .box [fvKz q]
structure EKz where
 q : One
 e : Int
structure MKz where
 q : One
 l : List Int
def C1Kz : Ctr := { ro := [100], α := EKz, xs := λ a => [.d (BM a.e), .bptr 100 0], L := λ a => (100, BKz a.q) :: [], val := λ a => .bool (!dH a.e), keep := λ a => (100, .live (BKz a.q)) :: [], pre := λ a => [True] }
def d1Kz : List AVal -> Heap -> Option (EKz × List (Nat × Nat) × List Nat)
 | [.d d, .bptr id _], H => some (⟨default, CR d⟩, [(100, id)], [])
 | _, _ => none
def A1Kz : Ann := { ann 8 [(T8, AOJ)] with E := [100] }
def V1Kz (a : EKz) : Prop := BB Try.prog A1Kz ART (AS ART) (C1Kz.xs a) (AK (C1Kz.L a)) (C1Kz.val a) (C1Kz.keep a) [] []
theorem BGD (a : EKz) : (V1Kz a) = ((!dH a.e) = !dH a.e) := by kernel_rfl
theorem BEC : AR Try.prog ABR (C1Kz.spec d1Kz) := EX C1Kz (λ _ => A1Kz) [] [] BAN (λ _ => by kernel_rfl) (λ _ => AH ASR AM) (λ (a : EKz) h => by
 have h : True := h
 show V1Kz a; rw [BGD]; try simp [wr, AP, BC, AY, h]) (λ _ => FK rfl rfl) _
def d2Kz : List AVal -> Heap -> Option (MKz × List (Nat × Nat) × List Nat)
 | [y, .fn _ _ [.bptr id _]], H => match HK y H with
  | some (n, g, f) => some (⟨default, AJ n λ i => CR (g i)⟩, [(100, id)], f)
  | none => none
 | _, _ => none
def A2Kz (a : MKz) : Ann := { ann 19 [(ABR, C1Kz.spec d1Kz)] with E := [100], loops := λ id => if id = 2 then some [{ α := Nat, dflt := 0, T := λ k => ⟨[(0, .d (AF a.l)), (1, .fn (.func ABR) [] [.bptr 100 0]), (7, .int a.l.length), (8, .int k)], (100, .live (BKz a.q)) :: []⟩, inv := λ k => k <= a.l.length /\ BN (λ i => !dH (gD a.l i)) a.l.length 0 = BN (λ i => !dH (gD a.l i)) (a.l.length - k) k, meas := λ k => a.l.length - k }] else none }
def PKz (a : MKz) : List Prop := [a.l.length < 4611686018427387904 /\ True]
def C2Kz : Ctr := { ro := [100], α := MKz, xs := λ a => [.d (AF a.l), .fn (.func ABR) [] [.bptr 100 0]], L := λ a => (100, BKz a.q) :: [], val := λ a => .int (BN (λ i => !dH (gD a.l i)) a.l.length 0), keep := λ a => (100, .live (BKz a.q)) :: [], pre := PKz }
def V2Kz (a : MKz) : Prop := BB Try.prog (A2Kz a) IQ (AS IQ) (C2Kz.xs a) (AK (C2Kz.L a)) (C2Kz.val a) (C2Kz.keep a) [] []
theorem BFK (a : MKz) : (V2Kz a) = ((∃ (a_1 : Nat), (a.l.length = a.l.length /\ (∀ (i : Nat), i < a.l.length -> gD a.l i = gD a.l i) /\ (↑a.l.length : Int) = (↑a.l.length : Int) /\ (↑a_1 : Int) = 0) /\ a_1 <= a.l.length /\
 BN (λ (i : Nat) => !dH (gD a.l i)) a.l.length 0 = BN (λ (i : Nat) => !dH (gD a.l i)) (a.l.length - a_1) a_1) /\ ∀ (a_1 : Nat), a_1 <= a.l.length /\ BN (λ (i : Nat) => !dH (gD a.l i)) a.l.length 0 = BN (λ (i :
 Nat) => !dH (gD a.l i)) (a.l.length - a_1) a_1 -> bif decide ((↑a_1 : Int) < (↑a.l.length : Int)) then ((0 <= (↑a_1 : Int) /\ (↑a_1 : Int) < (↑a.l.length : Int)) /\ gD a.l a_1 = gD a.l a_1 /\ True) /\ bif !dH (gD a.l a_1)
 then BN (λ (i : Nat) => !dH (gD a.l i)) a.l.length 0 = (↑a_1 : Int) else ∃ (a_3 : Nat), (a.l.length = a.l.length /\ (∀ (i : Nat), i < a.l.length -> gD a.l i = gD a.l i) /\ (↑a.l.length : Int) = (↑a.l.length : Int) /\
 (↑a_3 : Int) = IntKind.i64.wrap ((↑a_1 : Int) + 1)) /\ (a_3 <= a.l.length /\ BN (λ (i : Nat) => !dH (gD a.l i)) a.l.length 0 = BN (λ (i : Nat) => !dH (gD a.l i)) (a.l.length - a_3) a_3) /\ a.l.length - a_3 <
 a.l.length - a_1 else BN (λ (i : Nat) => !dH (gD a.l i)) a.l.length 0 = -1) := by kernel_rfl
theorem p2Kz (a : MKz) (h : BG (PKz a)) : V2Kz a := by
 obtain ⟨h, hp⟩ : a.l.length < 4611686018427387904 /\ True := h
 rw [BFK]
 simp only [BF, eq_self, implies_true, and_self, true_and, and_true, true_implies, forall_const, decide_eq_true_eq, decide_eq_false_iff_not, Int.toNat_natCast, dSpan_eSpan, dInt_eInt, AV, BH, BJ, BC, AZ, AX, AY, Nat.zero_add, Int.zero_sub, Nat.le_eq, Nat.succ_eq_add_one, Nat.add_one_le_iff, Bool.not_eq_true', Bool.not_eq_false', rng_length, AT, AP]
 refine ⟨⟨0, rfl, Nat.zero_le _, rfl⟩, λ k ⟨h1, h2⟩ => ⟨λ hlt => ?_, λ hge => ?_⟩⟩
 ·have hlt : k < a.l.length := by omega
  refine ⟨⟨by omega, by omega⟩, λ hp => ?_, λ hp => ⟨k + 1, (CE (by omega)).symm, ⟨by omega, ?_⟩, by omega⟩⟩
  ·rw [h2]; exact DJ hlt (by simpa using hp)
  ·rw [h2]; exact FZ hlt (by simpa using hp)
 ·rw [h2]; exact EK (by omega)
theorem BIJ : AR Try.prog JM (C2Kz.spec d2Kz) := EX C2Kz A2Kz [] [] WK (λ _ => by kernel_rfl) (λ _ => AH BEC AM) p2Kz (λ _ => FK rfl rfl) _
def C3Kz : Ctr := { C2Kz with val := λ (a : MKz) => .bool (decide (BN (λ i => !dH (gD a.l i)) a.l.length 0 >= 0)) }
def d3Kz : List AVal -> Heap -> Option (C3Kz.α × List (Nat × Nat) × List Nat) := d2Kz
def A3Kz : Ann := { ann 9 [(JM, C2Kz.spec d2Kz)] with E := [100] }
def V3Kz (a : MKz) : Prop := BB Try.prog A3Kz IY (AS IY) (C3Kz.xs a) (AK (C3Kz.L a)) (C3Kz.val a) (C3Kz.keep a) [] []
theorem BHG (a : MKz) : (V3Kz a) = (((AJ a.l.length λ (i : Nat) => gD a.l i).length = a.l.length /\ (∀ (i : Nat), i < (AJ a.l.length λ (i : Nat) => gD a.l i).length -> gD (AJ a.l.length λ (i : Nat) => gD a.l i)
 i = gD a.l i) /\ (AJ a.l.length λ (i : Nat) => gD a.l i).length < 4611686018427387904 /\ True) /\ decide (BN (λ (i : Nat) => !dH (gD a.l i)) a.l.length 0 >= 0) = decide (BN (λ (i : Nat) => !dH (gD (AJ a.l.length
 λ (i : Nat) => gD a.l i) i)) (AJ a.l.length λ (i : Nat) => gD a.l i).length 0 >= 0)) := by kernel_rfl
theorem BGM : AR Try.prog JD (C3Kz.spec d3Kz) := Ctr.spec_ok (C := C3Kz) (λ (a : MKz) h => JK (A := A3Kz) (ren := []) (fz := []) UA (by kernel_rfl) (AH BIJ AM) (by
 obtain ⟨h, hp⟩ : a.l.length < 4611686018427387904 /\ True := h
 show V3Kz a; rw [BHG]; simp [h, hp, AP, BC])) _
def d4Kz : List AVal -> Heap -> Option (MKz × List (Nat × Nat) × List Nat)
 | [y, .fn _ _ _], H => match HK y H with
  | some (n, g, f) => some (⟨default, AJ n λ i => CR (g i)⟩, [], f)
  | none => none
 | _, _ => none
def A4Kz : Ann := { ann 9 [(JD, C3Kz.spec d3Kz)] with E := [] }
def C4Kz : Ctr := { ro := [], α := MKz, xs := λ a => [.d (AF a.l), fvKz a.q], L := λ a => [], val := λ a => .bool (a.l.all λ x => dH x), keep := λ a => [], pre := PKz }
def V4Kz (a : MKz) : Prop := BB Try.prog A4Kz F_eJ (AS F_eJ) (C4Kz.xs a) (AK (C4Kz.L a)) (C4Kz.val a) (C4Kz.keep a) [] []
theorem BGL (a : MKz) : (V4Kz a) = (((AJ a.l.length λ (i : Nat) => gD a.l i).length = a.l.length /\ (∀ (i : Nat), i < (AJ a.l.length λ (i : Nat) => gD a.l i).length -> gD (AJ a.l.length λ (i : Nat) => gD a.l i)
 i = gD a.l i) /\ (AJ a.l.length λ (i : Nat) => gD a.l i).length < 4611686018427387904 /\ True) /\ (a.l.all λ (x : Int) => dH x) = !decide (BN (λ (i : Nat) => !dH (gD (AJ a.l.length λ (i : Nat) => gD a.l i) i))
 (AJ a.l.length λ (i : Nat) => gD a.l i).length 0 >= 0)) := by kernel_rfl
theorem BEK (a : MKz) (h : BG (PKz a)) : FnT Try.prog n_eJ (C4Kz.xs a) (AK (C4Kz.L a)) (C4Kz.val a) (C4Kz.keep a) := JK (A := A4Kz) (ren := []) (fz := []) BEA (by kernel_rfl) (AH BGM AM) (by
 have h' : a.l.length < 4611686018427387904 /\ True := h
 show V4Kz a; rw [BGL]; simp only [BF, eq_self, implies_true, and_self, true_and, and_true, true_implies, forall_const, decide_eq_true_eq, decide_eq_false_iff_not, Int.toNat_natCast, dSpan_eSpan, dInt_eInt, AV, BH, BJ, BC, AZ, AX, AY, Nat.zero_add, Int.zero_sub, Nat.le_eq, Nat.succ_eq_add_one, Nat.add_one_le_iff, Bool.not_eq_true', Bool.not_eq_false', rng_length, AT, AP, ge_iff_le]
 rw [<- EO]
 exact ⟨h'.1, rfl⟩)
theorem BDD : AR Try.prog n_eJ (C4Kz.spec d4Kz) := Ctr.spec_ok (C := C4Kz) BEK _
def C_clm : Ctr := { α := List Int, xs := λ l => [.d (AF l)], L := λ _ => [], val := λ _ => .int 0, keep := λ _ => [], pre := λ l => [(1 <= l.length /\ l.length <= 12) /\ (l.all λ x => dH x) = true] }
def AXV : Ann := ann 12 [(Ar, WB), (n_eJ, C4Kz.spec d4Kz)]
def AVK (l : List Int) : Prop := BB Try.prog AXV AMA (AS AMA) (C_clm.xs l) (AK []) (C_clm.val l) [] [] []
theorem BAC (l : List Int) : (AVK l) = (bif !HO (↑l.length : Int) (1 : Int) (12 : Int) then Int.ofNat (0 : Nat) = Int.ofNat (3 : Nat) else ((AJ l.length λ (i : Nat) => gD l i).length = l.length /\ (∀ (i : Nat), i
 < (AJ l.length λ (i : Nat) => gD l i).length -> gD (AJ l.length λ (i : Nat) => gD l i) i = gD l i) /\ (AJ l.length λ (i : Nat) => gD l i).length < (4611686018427387904 : Nat) /\ True) /\ bif !(AJ l.length λ (i :
 Nat) => gD l i).all λ (x : Int) => dH x then Int.ofNat (0 : Nat) = Int.ofNat (4 : Nat) else Int.ofNat (0 : Nat) = Int.ofNat (0 : Nat)) := by kernel_rfl
theorem BAA : AR Try.prog AOW (C_clm.spec cX) := EX C_clm (λ _ => AXV) [] [] AYS (λ _ => by kernel_rfl) (λ _ => AH Nx (AH BDD AM)) (λ (l : List Int) h => by
 obtain ⟨h1, h2⟩ : (1 <= l.length /\ l.length <= 12) /\ (l.all λ x => dH x) = true := h
 have e1 : HO l.length 1 12 = true := by simp [HO]; omega
 show AVK l; rw [BAC]; simp only [BF, eq_self, implies_true, and_self, true_and, and_true, true_implies, forall_const, decide_eq_true_eq, decide_eq_false_iff_not, Int.toNat_natCast, dSpan_eSpan, dInt_eInt, AV, BH, BJ, BC, AZ, AX, AY, Nat.zero_add, Int.zero_sub, Nat.le_eq, Nat.succ_eq_add_one, Nat.add_one_le_iff, Bool.not_eq_true', Bool.not_eq_false', rng_length, AT, AP, e1, h2]
 simp; try omega) (λ _ => FK rfl rfl) _
end Go.Bal
