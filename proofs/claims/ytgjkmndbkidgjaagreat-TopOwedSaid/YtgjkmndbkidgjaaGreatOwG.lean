/- TopOwed: is some element such, of package notes. Printed by genow.py. -/
import Derived.Test.YtgjkmndbkidgjaaGreatOwF
set_option linter.unusedVariables false
set_option linter.unusedSimpArgs false
namespace Go.Bal
open Go Go.Sym Go.Proofs
def LXKa (q : (Nat -> Bool)) : List (Nat × AObj) := [(101, stR q)]
def KXKa (q : (Nat -> Bool)) : List (Nat × HCell) := [(101, .live (stR q))]
def fvKa (q : (Nat -> Bool)) : AVal := .fn (.func kS) [] [.rptr 101 1 0 0]
structure MKa where
 q : (Nat -> Bool)
 l : List Int
def d2Ka : List AVal -> Heap -> Option (MKa × List (Nat × Nat) × List Nat)
 | [y, .fn _ _ [.rptr j _ _ _]], H => match HK y H with
  | some (n, g, f) => match H j with
   | .live (.row _ _ b) => some (⟨λ i => ABC (b i), AJ n λ i => CR (g i)⟩, [(101, j)], f)
   | _ => none
  | none => none
 | _, _ => none
def A2Ka (a : MKa) : Ann := { ann 19 [(kS, C_as1.spec AWI)] with E := [101], loops := λ id => if id = 2 then some [{ α := Nat, dflt := 0, T := λ k => ⟨[(0, .d (AF a.l)), (1, fvKa a.q), (7, .int a.l.length), (8, .int k)], KXKa a.q⟩, inv := λ k => k <= a.l.length /\ BN (λ i => a.q ((gD a.l i)).toNat) a.l.length 0 = BN (λ i => a.q ((gD a.l i)).toNat) (a.l.length - k) k, meas := λ k => a.l.length - k }] else none }
def PKa (a : MKa) : List Prop := [a.l.length < 4611686018427387904 /\ ∀ i, i < a.l.length -> 0 <= gD a.l i /\ gD a.l i < 30]
def C2Ka : Ctr := { ro := [101], α := MKa, xs := λ a => [.d (AF a.l), fvKa a.q], L := λ a => LXKa a.q, val := λ a => .int (BN (λ i => a.q ((gD a.l i)).toNat) a.l.length 0), keep := λ a => KXKa a.q, pre := PKa }
def V2Ka (a : MKa) : Prop := BB Try.prog (A2Ka a) IQ (AS IQ) (C2Ka.xs a) (AK (C2Ka.L a)) (C2Ka.val a) (C2Ka.keep a) [] []
theorem BJC (a : MKa) : (V2Ka a) = ((∃ (a_1 : Nat), (a.l.length = a.l.length /\ (∀ (i : Nat), i < a.l.length -> gD a.l i = gD a.l i) /\ 0 = 0 /\ (↑a.l.length : Int) = (↑a.l.length : Int) /\ (↑a_1 : Int) = 0 /\ 30 = 30 /\ ∀ (i
 : Nat), i < 30 -> a.q i = a.q i) /\ a_1 <= a.l.length /\ BN (λ (i : Nat) => a.q (gD a.l i).toNat) a.l.length 0 = BN (λ (i : Nat) => a.q (gD a.l i).toNat) (a.l.length - a_1) a_1) /\ ∀ (a_1 : Nat), a_1 <= a.l.length /\ BN
 (λ (i : Nat) => a.q (gD a.l i).toNat) a.l.length 0 = BN (λ (i : Nat) => a.q (gD a.l i).toNat) (a.l.length - a_1) a_1 -> bif decide ((↑a_1 : Int) < (↑a.l.length : Int)) then ((0 <= (↑a_1 : Int) /\ (↑a_1 : Int) <
 (↑a.l.length : Int)) /\ gD a.l a_1 = gD a.l a_1 /\ 0 = 0 /\ 30 = 30 /\ (∀ (i : Nat), i < 30 -> a.q i = a.q i) /\ 30 = 30 /\ (∀ (i : Nat), i < 30 -> a.q i = a.q i) /\ 0 <= gD a.l a_1 /\ gD a.l a_1 < 30) /\ bif a.q (gD a.l a_1).toNat
 then BN (λ (i : Nat) => a.q (gD a.l i).toNat) a.l.length 0 = (↑a_1 : Int) /\ 30 = 30 /\ ∀ (i : Nat), i < 30 -> a.q i = a.q i else ∃ (a_3 : Nat), (a.l.length = a.l.length /\ (∀ (i : Nat), i < a.l.length -> gD a.l i = gD a.l
 i) /\ 0 = 0 /\ (↑a.l.length : Int) = (↑a.l.length : Int) /\ (↑a_3 : Int) = IntKind.i64.wrap ((↑a_1 : Int) + 1) /\ 30 = 30 /\ ∀ (i : Nat), i < 30 -> a.q i = a.q i) /\ (a_3 <= a.l.length /\ BN (λ (i : Nat) => a.q (gD a.l
 i).toNat) a.l.length 0 = BN (λ (i : Nat) => a.q (gD a.l i).toNat) (a.l.length - a_3) a_3) /\ a.l.length - a_3 < a.l.length - a_1 else BN (λ (i : Nat) => a.q (gD a.l i).toNat) a.l.length 0 = -1 /\ 30 = 30 /\ ∀ (i :
 Nat), i < 30 -> a.q i = a.q i) := by kernel_rfl
theorem p2Ka (a : MKa) (h : BG (PKa a)) : V2Ka a := by
 obtain ⟨h, hp⟩ : a.l.length < 4611686018427387904 /\ ∀ i, i < a.l.length -> 0 <= gD a.l i /\ gD a.l i < 30 := h
 rw [BJC]
 simp only [BF, eq_self, implies_true, and_self, true_and, and_true, true_implies, forall_const, decide_eq_true_eq, decide_eq_false_iff_not, Int.toNat_natCast, dSpan_eSpan, dInt_eInt, AV, BH, BJ, BC, AZ, AX, AY, Nat.zero_add, Int.zero_sub, Nat.le_eq, Nat.succ_eq_add_one, Nat.add_one_le_iff, Bool.not_eq_true', Bool.not_eq_false', rng_length, AT, AP]
 refine ⟨⟨0, rfl, Nat.zero_le _, rfl⟩, λ k ⟨h1, h2⟩ => ⟨λ hlt => ?_, λ hge => ?_⟩⟩
 ·have hlt : k < a.l.length := by omega
  have hr := hp k hlt
  refine ⟨⟨by omega, hr⟩, λ hp => ?_, λ hp => ⟨k + 1, (CE (by omega)).symm, ⟨by omega, ?_⟩, by omega⟩⟩
  ·rw [h2]; exact DJ hlt (by simpa using hp)
  ·rw [h2]; exact FZ hlt (by simpa using hp)
 ·rw [h2]; exact EK (by omega)
theorem BGS : AR Try.prog JM (C2Ka.spec d2Ka) := EX C2Ka A2Ka [] [] WK (λ _ => by kernel_rfl) (λ _ => AH BBR AM) p2Ka (λ _ => FK rfl rfl) _
def C3Ka : Ctr := { C2Ka with val := λ (a : MKa) => .bool (decide (BN (λ i => a.q ((gD a.l i)).toNat) a.l.length 0 >= 0)) }
def d3Ka : List AVal -> Heap -> Option (C3Ka.α × List (Nat × Nat) × List Nat) := d2Ka
def A3Ka : Ann := { ann 9 [(JM, C2Ka.spec d2Ka)] with E := [101] }
def V3Ka (a : MKa) : Prop := BB Try.prog A3Ka IY (AS IY) (C3Ka.xs a) (AK (C3Ka.L a)) (C3Ka.val a) (C3Ka.keep a) [] []
theorem BEM (a : MKa) : (V3Ka a) = (((AJ a.l.length λ (i : Nat) => gD a.l i).length = a.l.length /\ (∀ (i : Nat), i < (AJ a.l.length λ (i : Nat) => gD a.l i).length -> gD (AJ a.l.length λ (i : Nat) => gD a.l i)
 i = gD a.l i) /\ 0 = 0 /\ 30 = 30 /\ (∀ (i : Nat), i < 30 -> a.q i = a.q i) /\ 30 = 30 /\ (∀ (i : Nat), i < 30 -> a.q i = a.q i) /\ (AJ a.l.length λ (i : Nat) => gD a.l i).length < 4611686018427387904 /\ ∀ (i : Nat), i < (AJ
 a.l.length λ (i : Nat) => gD a.l i).length -> 0 <= gD (AJ a.l.length λ (i : Nat) => gD a.l i) i /\ gD (AJ a.l.length λ (i : Nat) => gD a.l i) i < 30) /\ decide (BN (λ (i : Nat) => a.q (gD a.l i).toNat) a.l.length
 0 >= 0) = decide (BN (λ (i : Nat) => a.q (gD (AJ a.l.length λ (i : Nat) => gD a.l i) i).toNat) (AJ a.l.length λ (i : Nat) => gD a.l i).length 0 >= 0) /\ 30 = 30 /\ ∀ (i : Nat), i < 30 -> a.q i = a.q i) := by
 kernel_rfl
theorem BFY : AR Try.prog JD (C3Ka.spec d3Ka) := Ctr.spec_ok (C := C3Ka) (λ (a : MKa) h => JK (A := A3Ka) (ren := []) (fz := []) UA (by kernel_rfl) (AH BGS AM) (by
 obtain ⟨h, hp⟩ : a.l.length < 4611686018427387904 /\ ∀ i, i < a.l.length -> 0 <= gD a.l i /\ gD a.l i < 30 := h
 show V3Ka a; rw [BEM]; simp only [BF, eq_self, implies_true, and_self, true_and, and_true, true_implies, forall_const, decide_eq_true_eq, decide_eq_false_iff_not, Int.toNat_natCast, dSpan_eSpan, dInt_eInt, AV, BH, BJ, BC, AZ, AX, AY, Nat.zero_add, Int.zero_sub, Nat.le_eq, Nat.succ_eq_add_one, Nat.add_one_le_iff, Bool.not_eq_true', Bool.not_eq_false', rng_length, AT, AP]; exact ⟨h, hp⟩)) _
def LXKf (q : LQ) : List (Nat × AObj) := [(101, .box [.bptr 103 0]), (102, .box [.int q.i]), (103, HY q.l)]
def KXKf (q : LQ) : List (Nat × HCell) := [(101, .live (.box [.bptr 103 0])), (102, .live (.box [.int q.i])), (103, .live (HY q.l))]
def fvKf (q : LQ) : AVal := .fn (.func mM) [] [.bptr 101 0, .bptr 102 0]
structure MKf where
 q : LQ
 l : List Int
def d2Kf : List AVal -> Heap -> Option (MKf × List (Nat × Nat) × List Nat)
 | [y, .fn _ _ [.bptr j _, .bptr k _]], H => match HK y H with
  | some (n, g, f) => match H j, wS H k with
   | .live (.box [.bptr w _]), some i => match JC H w with
    | some q => some (⟨⟨q, i⟩, AJ n λ i => CR (g i)⟩, [(101, j), (102, k), (103, w)], f)
    | none => none
   | _, _ => none
  | none => none
 | _, _ => none
def A2Kf (a : MKf) : Ann := { ann 19 [(mM, C_fu1.spec AVM)] with E := [101, 102, 103], loops := λ id => if id = 2 then some [{ α := Nat, dflt := 0, T := λ k => ⟨[(0, .d (AF a.l)), (1, fvKf a.q), (7, .int a.l.length), (8, .int k)], KXKf a.q⟩, inv := λ k => k <= a.l.length /\ BN (λ i => CK (gD a.q.l a.q.i.toNat).of ((gD a.l i))) a.l.length 0 = BN (λ i => CK (gD a.q.l a.q.i.toNat).of ((gD a.l i))) (a.l.length - k) k, meas := λ k => a.l.length - k }] else none }
def PKf (a : MKf) : List Prop := [a.l.length < 4611686018427387904 /\ ((0 <= a.q.i /\ a.q.i < a.q.l.length) /\ (gD a.q.l a.q.i.toNat).of.length <= 5)]
def C2Kf : Ctr := { ro := [101, 102, 103], α := MKf, xs := λ a => [.d (AF a.l), fvKf a.q], L := λ a => LXKf a.q, val := λ a => .int (BN (λ i => CK (gD a.q.l a.q.i.toNat).of ((gD a.l i))) a.l.length 0), keep := λ a => KXKf a.q, pre := PKf }
def V2Kf (a : MKf) : Prop := BB Try.prog (A2Kf a) IQ (AS IQ) (C2Kf.xs a) (AK (C2Kf.L a)) (C2Kf.val a) (C2Kf.keep a) [] []
abbrev AGH (a : MKf) : Prop := a.l.length = a.l.length
abbrev AEA (a : MKf) (i : Nat) : Prop := gD a.l i = gD a.l i
abbrev ABW (a : MKf) : Prop := ∀ (i : Nat), i < a.l.length -> AEA a i
abbrev AEH (a : MKf) : Prop := (↑a.l.length : Int) = (↑a.l.length : Int)
abbrev dG (a : MKf) (i : Nat) : Nat := (gD a.q.l i).of.length
abbrev AFS (i : Nat) (a : MKf) (i1 : Nat) : Prop := i < dG a i1
abbrev sY (a : MKf) (i : Nat) (i1 : Nat) : Int := gD (gD a.q.l i).of i1
abbrev uU (a : MKf) : Prop := a.q.i = a.q.i /\ a.q.l.length = a.q.l.length /\ ∀ (i : Nat), i < a.q.l.length -> dG a i = dG a i /\ (∀ (i_1 : Nat), AFS i_1 a i -> sY a i i_1 = sY a i i_1) /\ (gD a.q.l
 i).ba = (gD a.q.l i).ba /\ (gD a.q.l i).mi = (gD a.q.l i).mi
abbrev AGM (a : MKf) (i : Nat) : Bool := CK (gD a.q.l a.q.i.toNat).of (gD a.l i)
abbrev A9 (a : MKf) : Int := BN (λ (i : Nat) => AGM a i) a.l.length 0
abbrev jP (a : MKf) (a1 : Nat) : Nat := a.l.length - a1
abbrev hC (a : Nat) (a1 : MKf) : Prop := a <= a1.l.length /\ A9 a1 = BN (λ (i : Nat) => AGM a1 i) (jP a1 a) a
abbrev yP (a : Nat) (a1 : MKf) : Prop := (↑a : Int) < (↑a1.l.length : Int)
abbrev hZ (a : MKf) : List Wk := AJ a.q.l.length λ (i : Nat) => BE (BK (gD a.q.l i))
abbrev Vb (a : MKf) : Nat := (hZ a).length
abbrev jO (a : MKf) (i : Nat) : Wk := gD (hZ a) i
abbrev R9 (a : MKf) (i : Nat) : List Int := (jO a i).of
abbrev lD (a : MKf) (i : Nat) : Nat := (R9 a i).length
abbrev V0 (a : MKf) (i : Nat) (i1 : Nat) : Int := gD (R9 a i) i1
abbrev U8 (a : MKf) (i : Nat) : Int := (jO a i).ba
abbrev W9 (a : MKf) (i : Nat) : Int := (jO a i).mi
abbrev I1 (a : MKf) : List Int := (gD (hZ a) a.q.i.toNat).of
theorem BJF (a : MKf) : (V2Kf a) = ((∃ (a_1 : Nat), (AGH a /\ ABW a /\ AEH a /\ (↑a_1 : Int) = 0 /\ uU a) /\ hC a_1 a) /\ ∀ (a_1 : Nat), hC a_1 a -> bif decide (yP a_1 a) then ((0 <= (↑a_1 : Int) /\
 yP a_1 a) /\ AEA a a_1 /\ a.q.i = a.q.i /\ Vb a = a.q.l.length /\ (∀ (i : Nat), i < Vb a -> lD a i = dG a i /\ (∀ (i_1 : Nat), i_1 < lD a i -> V0 a i i_1 = sY a i i_1) /\ U8 a i =
 (gD a.q.l i).ba /\ W9 a i = (gD a.q.l i).mi) /\ a.q.i = a.q.i /\ a.q.l.length = Vb a /\ (∀ (i : Nat), i < a.q.l.length -> dG a i = lD a i /\ (∀ (i_1 : Nat), AFS i_1 a i -> sY a i i_1 = V0 a i i_1)
 /\ (gD a.q.l i).ba = U8 a i /\ (gD a.q.l i).mi = W9 a i) /\ (0 <= a.q.i /\ a.q.i < (↑(Vb a) : Int)) /\ (I1 a).length <= 5) /\ bif CK (I1 a) (gD a.l a_1) then A9 a = (↑a_1 : Int) /\ uU a else ∃
 (a_3 : Nat), (AGH a /\ ABW a /\ AEH a /\ (↑a_3 : Int) = IntKind.i64.wrap ((↑a_1 : Int) + 1) /\ uU a) /\ hC a_3 a /\ jP a a_3 < jP a a_1 else A9 a = -1 /\ uU a) := by kernel_rfl
theorem p2Kf (a : MKf) (h : BG (PKf a)) : V2Kf a := by
 obtain ⟨h, hp⟩ : a.l.length < 4611686018427387904 /\ ((0 <= a.q.i /\ a.q.i < a.q.l.length) /\ (gD a.q.l a.q.i.toNat).of.length <= 5) := h
 rw [BJF]; delta AGH AEA ABW AEH dG AFS sY uU AGM A9 jP hC yP hZ Vb jO R9 lD V0 U8 W9 I1
 simp only [BF, eq_self, implies_true, and_self, true_and, and_true, true_implies, forall_const, decide_eq_true_eq, decide_eq_false_iff_not, Int.toNat_natCast, dSpan_eSpan, dInt_eInt, AV, BH, BJ, BC, AZ, AX, AY, Nat.zero_add, Int.zero_sub, Nat.le_eq, Nat.succ_eq_add_one, Nat.add_one_le_iff, Bool.not_eq_true', Bool.not_eq_false', rng_length, AT, AP]
 refine ⟨⟨0, rfl, Nat.zero_le _, rfl⟩, λ k ⟨h1, h2⟩ => ⟨λ hlt => ?_, λ hge => ?_⟩⟩
 ·have hlt : k < a.l.length := by omega
  have hr := hp
  refine ⟨⟨by omega, hr⟩, λ hp => ?_, λ hp => ⟨k + 1, (CE (by omega)).symm, ⟨by omega, ?_⟩, by omega⟩⟩
  ·rw [h2]; exact DJ hlt (by simpa using hp)
  ·rw [h2]; exact FZ hlt (by simpa using hp)
 ·rw [h2]; exact EK (by omega)
theorem BHP : AR Try.prog JM (C2Kf.spec d2Kf) := EX C2Kf A2Kf [] [] WK (λ _ => by kernel_rfl) (λ _ => AH AYU AM) p2Kf (λ _ => FK rfl rfl) _
def C3Kf : Ctr := { C2Kf with val := λ (a : MKf) => .bool (decide (BN (λ i => CK (gD a.q.l a.q.i.toNat).of ((gD a.l i))) a.l.length 0 >= 0)) }
def d3Kf : List AVal -> Heap -> Option (C3Kf.α × List (Nat × Nat) × List Nat) := d2Kf
def A3Kf : Ann := { ann 9 [(JM, C2Kf.spec d2Kf)] with E := [101, 102, 103] }
def V3Kf (a : MKf) : Prop := BB Try.prog A3Kf IY (AS IY) (C3Kf.xs a) (AK (C3Kf.L a)) (C3Kf.val a) (C3Kf.keep a) [] []
theorem BFG (a : MKf) : (V3Kf a) = (((AJ a.l.length λ (i : Nat) => gD a.l i).length = a.l.length /\ (∀ (i : Nat), i < (AJ a.l.length λ (i : Nat) => gD a.l i).length -> gD (AJ a.l.length λ (i : Nat) => gD a.l i)
 i = gD a.l i) /\ a.q.i = a.q.i /\ (AJ a.q.l.length λ (i : Nat) => BE (BK (gD a.q.l i))).length = a.q.l.length /\ (∀ (i : Nat), i < (AJ a.q.l.length λ (i : Nat) => BE (BK (gD a.q.l i))).length -> (gD (AJ
 a.q.l.length λ (i : Nat) => BE (BK (gD a.q.l i))) i).of.length = (gD a.q.l i).of.length /\ (∀ (i_1 : Nat), i_1 < (gD (AJ a.q.l.length λ (i : Nat) => BE (BK (gD a.q.l i))) i).of.length -> gD (gD (AJ a.q.l.length
 λ (i : Nat) => BE (BK (gD a.q.l i))) i).of i_1 = gD (gD a.q.l i).of i_1) /\ (gD (AJ a.q.l.length λ (i : Nat) => BE (BK (gD a.q.l i))) i).ba = (gD a.q.l i).ba /\ (gD (AJ a.q.l.length λ (i : Nat) => BE (BK (gD
 a.q.l i))) i).mi = (gD a.q.l i).mi) /\ a.q.i = a.q.i /\ a.q.l.length = (AJ a.q.l.length λ (i : Nat) => BE (BK (gD a.q.l i))).length /\ (∀ (i : Nat), i < a.q.l.length -> (gD a.q.l i).of.length = (gD (AJ a.q.l.length fun
 (i : Nat) => BE (BK (gD a.q.l i))) i).of.length /\ (∀ (i_1 : Nat), i_1 < (gD a.q.l i).of.length -> gD (gD a.q.l i).of i_1 = gD (gD (AJ a.q.l.length λ (i : Nat) => BE (BK (gD a.q.l i))) i).of i_1) /\ (gD a.q.l i).ba =
 (gD (AJ a.q.l.length λ (i : Nat) => BE (BK (gD a.q.l i))) i).ba /\ (gD a.q.l i).mi = (gD (AJ a.q.l.length λ (i : Nat) => BE (BK (gD a.q.l i))) i).mi) /\ (AJ a.l.length λ (i : Nat) => gD a.l i).length <
 4611686018427387904 /\ (0 <= a.q.i /\ a.q.i < (↑(AJ a.q.l.length λ (i : Nat) => BE (BK (gD a.q.l i))).length : Int)) /\ (gD (AJ a.q.l.length λ (i : Nat) => BE (BK (gD a.q.l i))) a.q.i.toNat).of.length <= 5) /\ decide
 (BN (λ (i : Nat) => CK (gD a.q.l a.q.i.toNat).of (gD a.l i)) a.l.length 0 >= 0) = decide (BN (λ (i : Nat) => CK (gD (AJ a.q.l.length λ (i : Nat) => BE (BK (gD a.q.l i))) a.q.i.toNat).of (gD (AJ a.l.length
 λ (i : Nat) => gD a.l i) i)) (AJ a.l.length λ (i : Nat) => gD a.l i).length 0 >= 0) /\ a.q.i = a.q.i /\ a.q.l.length = a.q.l.length /\ ∀ (i : Nat), i < a.q.l.length -> (gD a.q.l i).of.length = (gD a.q.l i).of.length /\ (∀
 (i_1 : Nat), i_1 < (gD a.q.l i).of.length -> gD (gD a.q.l i).of i_1 = gD (gD a.q.l i).of i_1) /\ (gD a.q.l i).ba = (gD a.q.l i).ba /\ (gD a.q.l i).mi = (gD a.q.l i).mi) := by kernel_rfl
theorem AVS : AR Try.prog JD (C3Kf.spec d3Kf) := Ctr.spec_ok (C := C3Kf) (λ (a : MKf) h => JK (A := A3Kf) (ren := []) (fz := []) UA (by kernel_rfl) (AH BHP AM) (by
 obtain ⟨h, hp⟩ : a.l.length < 4611686018427387904 /\ ((0 <= a.q.i /\ a.q.i < a.q.l.length) /\ (gD a.q.l a.q.i.toNat).of.length <= 5) := h
 show V3Kf a; rw [BFG]; simp only [BF, eq_self, implies_true, and_self, true_and, and_true, true_implies, forall_const, decide_eq_true_eq, decide_eq_false_iff_not, Int.toNat_natCast, dSpan_eSpan, dInt_eInt, AV, BH, BJ, BC, AZ, AX, AY, Nat.zero_add, Int.zero_sub, Nat.le_eq, Nat.succ_eq_add_one, Nat.add_one_le_iff, Bool.not_eq_true', Bool.not_eq_false', rng_length, AT, AP]; exact ⟨h, hp⟩)) _
end Go.Bal
