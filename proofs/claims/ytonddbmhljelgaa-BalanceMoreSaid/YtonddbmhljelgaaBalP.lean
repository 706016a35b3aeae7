/- Package balance: every over numbers. Printed by genpred.py. -/
import Derived.Test.YtonddbmhljelgaaBalO
set_option linter.unusedVariables false
set_option linter.unusedSimpArgs false
namespace Go.Bal
open Go Go.Sym Go.Proofs
def Rt : List AVal -> Heap -> Option (List Int × List (Nat × Nat) × List Nat)
 | [.d (.list _ n g _), .fn _ _ []], _ => some (AC n λ i => EW (g i), [], [])
 | _, _ => none
def Pp : List AVal -> Heap -> Option (List Int × List (Nat × Nat) × List Nat)
 | [.d (.list _ n g _), .fn _ _ [.bptr id _]], _ => some (AC n λ i => EW (g i), [(100, id)], [])
 | _, _ => none
def Rp : List AVal -> Heap -> Option (Int × List (Nat × Nat) × List Nat)
 | [.d d, .bptr id _], _ => some (EW d, [(100, id)], [])
 | _, _ => none
theorem Lx {l : List Int} {a b : Int} : (!decide (0 <= GC (λ i => !GD (gD l i) a b) l.length 0)) = HN (λ i => GD (gD l i) a b) l.length := ZP
def V61 (x : Int) : Prop := BM Try.prog (ann 5 [(62, Us)]) Try.f61 (AJ Try.f61) [.int x] (AE []) (.bool (GD x (-1) 1)) [] [] []
theorem vc61 (x : Int) : (V61 x) = (GD x (-1) 1 = GD x (-1) 1) := by kernel_rfl
def f61 : List AVal -> Option (AVal × List Prop)
 | [.d (.v (.int .i64 x))] => some (.bool (GD x (-1) 1), [])
 | _ => none
def s61 := FF f61
theorem Ws : AL Try.prog 61 s61 := DO λ xs v p h _ => by
 unfold f61 at h; split at h
 ·cases h; exact RX (A := ann 5 [(62, Us)]) (ren := []) (fz := []) Try.func61 (by kernel_rfl) (AB Rm AH) (by show V61 _; rw [vc61])
 ·cases h
def Pc : AObj := .box [.fn (.func 61) [] []]
def C90c61 : Ctr := { ro := [100], α := Int, xs := λ x => [.int x, .bptr 100 0], L := λ _ => [(100, Pc)], val := λ x => .bool (!GD x (-1) 1), keep := λ _ => [(100, .live Pc)] }
def Ps := { ann 8 [(61, s61)] with E := [100] }
def Oj (x : Int) : Prop := BM Try.prog Ps Try.f90 (AJ Try.f90) (C90c61.xs x) (AE (C90c61.L x)) (C90c61.val x) (C90c61.keep x) [] []
theorem Qa (x : Int) : (Oj x) = ((!GD x (-1) 1) = !GD x (-1) 1) := by kernel_rfl
theorem Tq (x : Int) : Oj x := by rw [Qa]
theorem Pz : AL Try.prog 90 (C90c61.spec Rp) := Ctr.spec_ok (C := C90c61) (λ (x : Int) _ => RX (A := Ps) (ren := []) (fz := []) Try.func90 (by kernel_rfl) (AB Ws AH) (Tq x)) _
def Pf (l : List Int) : Ann := { ann 19 [(90, C90c61.spec Rp)] with E := [100], loops := λ id => if id = 2 then some [{ α := Nat, dflt := 0, T := λ k => ⟨[(0, .d (CV l)), (1, .fn (.func 90) [] [.bptr 100 0]), (7, .int l.length), (8, .int k)], [(100, .live Pc)]⟩, inv := λ k => k <= l.length /\ GC (λ i => !GD (gD l i) (-1) 1) l.length 0 = GC (λ i => !GD (gD l i) (-1) 1) (l.length - k) k, meas := λ k => l.length - k }] else none }
def C95c61 : Ctr := { ro := [100], α := List Int, xs := λ l => [.d (CV l), .fn (.func 90) [] [.bptr 100 0]], L := λ _ => [(100, Pc)], val := λ l => .int (GC (λ i => !GD (gD l i) (-1) 1) l.length 0), keep := λ _ => [(100, .live Pc)], pre := λ l => [decide (l.length < 4611686018427387904) = true] }
def Oq (l : List Int) : Prop := BM Try.prog (Pf l) Try.f95 (AJ Try.f95) (C95c61.xs l) (AE (C95c61.L l)) (C95c61.val l) (C95c61.keep l) [] []
theorem Ri (l : List Int) : (Oq l) = ((∃ (a : Nat), (l.length = l.length /\ (∀ (i : Nat), i < l.length -> gD l i = gD l i) /\ (↑l.length : Int) = (↑l.length : Int) /\ (↑a : Int) = 0) /\ a <= l.length /\ GC (λ (i :
 Nat) => !GD (gD l i) (-1) 1) l.length 0 = GC (λ (i : Nat) => !GD (gD l i) (-1) 1) (l.length - a) a) /\ ∀ (a : Nat), a <= l.length /\ GC (λ (i : Nat) => !GD (gD l i) (-1) 1) l.length 0 = GC (λ (i : Nat) => !GD
 (gD l i) (-1) 1) (l.length - a) a -> bif decide ((↑a : Int) < (↑l.length : Int)) then ((0 <= (↑a : Int) /\ (↑a : Int) < (↑l.length : Int)) /\ gD l a = gD l a) /\ bif !GD (gD l a) (-1) 1 then GC (λ (i : Nat) => !GD (gD l
 i) (-1) 1) l.length 0 = (↑a : Int) else ∃ (a_2 : Nat), (l.length = l.length /\ (∀ (i : Nat), i < l.length -> gD l i = gD l i) /\ (↑l.length : Int) = (↑l.length : Int) /\ (↑a_2 : Int) = IntKind.i64.wrap ((↑a : Int) + 1)) /\
 (a_2 <= l.length /\ GC (λ (i : Nat) => !GD (gD l i) (-1) 1) l.length 0 = GC (λ (i : Nat) => !GD (gD l i) (-1) 1) (l.length - a_2) a_2) /\ l.length - a_2 < l.length - a else GC (λ (i : Nat) => !GD (gD l i) (-1)
 1) l.length 0 = -1) := by kernel_rfl
theorem To (l : List Int) (h : l.length < 4611686018427387904) : Oq l := by
 rw [Ri]
 simp only [CC, eq_self, implies_true, forall_const]
 refine ⟨⟨0, rfl, Nat.zero_le _, rfl⟩, λ k ⟨h1, h2⟩ => ⟨λ hlt => ?_, λ hge => ?_⟩⟩
 ·have hlt : k < l.length := by omega
  refine ⟨⟨by omega, by omega⟩, λ hp => ?_, λ hp => ⟨k + 1, (BB (by omega)).symm, ⟨by omega, ?_⟩, by omega⟩⟩
  ·rw [h2]; exact UU hlt (by simpa using hp)
  ·rw [h2]; exact Dz hlt (by simpa using hp)
 ·rw [h2]; exact YI (by omega)
theorem Qx : AL Try.prog 95 (C95c61.spec Pp) := JC C95c61 Pf [] [] Try.func95 (λ _ => by kernel_rfl) (λ _ => AB Pz AH) (λ a h => To a (of_decide_eq_true h)) (λ _ => KF rfl rfl) _
def C89c61 : Ctr := { C95c61 with val := λ (l : List Int) => .bool (decide (GC (λ i => !GD (gD l i) (-1) 1) l.length 0 >= 0)) }
def Fz : List AVal -> Heap -> Option (C89c61.α × List (Nat × Nat) × List Nat) := Pp
def Pn := { ann 9 [(95, C95c61.spec Pp)] with E := [100] }
def Of (l : List Int) : Prop := BM Try.prog Pn Try.f89 (AJ Try.f89) (C89c61.xs l) (AE (C89c61.L l)) (C89c61.val l) (C89c61.keep l) [] []
theorem Qi (l : List Int) : (Of l) = (((AC l.length λ (i : Nat) => gD l i).length = l.length /\ (∀ (i : Nat), i < (AC l.length λ (i : Nat) => gD l i).length -> gD (AC l.length λ (i : Nat) => gD l i) i =
 gD l i) /\ decide ((AC l.length λ (i : Nat) => gD l i).length < 4611686018427387904) = true) /\ decide (GC (λ (i : Nat) => !GD (gD l i) (-1) 1) l.length 0 >= 0) = decide (GC (λ (i : Nat) => !GD (gD (AC l.length
 λ (i : Nat) => gD l i) i) (-1) 1) (AC l.length λ (i : Nat) => gD l i).length 0 >= 0)) := by kernel_rfl
theorem Tw (l : List Int) (h : l.length < 4611686018427387904) : Of l := by
 rw [Qi]; simp [h, MM]
theorem Rb : AL Try.prog 89 (C89c61.spec Fz) := Ctr.spec_ok (C := C89c61) (λ (l : List Int) h => RX (A := Pn) (ren := []) (fz := []) Try.func89 (by kernel_rfl) (AB Qx AH) (Tw l (of_decide_eq_true h))) _
def Nr := ann 9 [(89, C89c61.spec Fz)]
def C64c61 : Ctr := { α := List Int, xs := λ l => [.d (CV l), .fn (.func 61) [] []], L := λ _ => [], val := λ l => .bool (HN (λ i => GD (gD l i) (-1) 1) l.length), keep := λ _ => [], pre := λ l => [decide (l.length < 4611686018427387904) = true] }
def Po (l : List Int) : Prop := BM Try.prog Nr Try.f64 (AJ Try.f64) (C64c61.xs l) (AE []) (C64c61.val l) [] [] []
theorem Qj (l : List Int) : (Po l) = (((AC l.length λ (i : Nat) => gD l i).length = l.length /\ (∀ (i : Nat), i < (AC l.length λ (i : Nat) => gD l i).length -> gD (AC l.length λ (i : Nat) => gD l i) i =
 gD l i) /\ decide ((AC l.length λ (i : Nat) => gD l i).length < 4611686018427387904) = true) /\ HN (λ (i : Nat) => GD (gD l i) (-1) 1) l.length = !decide (GC (λ (i : Nat) => !GD (gD (AC l.length λ (i : Nat)
 => gD l i) i) (-1) 1) (AC l.length λ (i : Nat) => gD l i).length 0 >= 0)) := by kernel_rfl
theorem Tc (l : List Int) (h : l.length < 4611686018427387904) : Po l := by
 rw [Qj]; simp only [CC, eq_self, implies_true, forall_const, ge_iff_le, Lx, h]
theorem Px : AL Try.prog 64 (C64c61.spec Rt) := Ctr.spec_ok (C := C64c61) (λ (l : List Int) h => RX (A := Nr) (L := []) (keep := []) (ren := []) (fz := []) Try.func64 (by kernel_rfl) (AB Rb AH) (Tc l (of_decide_eq_true h))) _
end Go.Bal
