/- Package balance: every over numbers. Printed by genpred.py. -/
import Derived.Test.YtonddbmhljelgaaBalO
set_option linter.unusedVariables false
set_option linter.unusedSimpArgs false
namespace Go.Bal
open Go Go.Sym Go.Proofs
def AAG : List AVal -> Heap -> Option (List Int × List (Nat × Nat) × List Nat)
 | [.d (.list _ n g _), .fn _ _ []], _ => some (AD n λ i => FH (g i), [], [])
 | _, _ => none
def Vl : List AVal -> Heap -> Option (List Int × List (Nat × Nat) × List Nat)
 | [.d (.list _ n g _), .fn _ _ [.bptr id _]], _ => some (AD n λ i => FH (g i), [(100, id)], [])
 | _, _ => none
def AAO : List AVal -> Heap -> Option (Int × List (Nat × Nat) × List Nat)
 | [.d d, .bptr id _], _ => some (FH d, [(100, id)], [])
 | _, _ => none
theorem Rs {l : List Int} {a b : Int} : (!decide (0 <= GQ (λ i => !inM (gD l i) a b) l.length 0)) = HP (λ i => inM (gD l i) a b) l.length := Dz
def V61 (x : Int) : Prop := BC Try.prog (ann 5 [(62, Zt)]) Try.f61 (AH Try.f61) [.int x] (AE []) (.bool (inM x (-1) 1)) [] [] []
theorem vc61 (x : Int) : (V61 x) = (inM x (-1) 1 = inM x (-1) 1) := by kernel_rfl
def f61 : List AVal -> Option (AVal × List Prop)
 | [.d (.v (.int .i64 x))] => some (.bool (inM x (-1) 1), [])
 | _ => none
def s61 := DX f61
theorem ok61 : AI Try.prog 61 s61 := CE λ xs v p h _ => by
 unfold f61 at h; split at h
 ·cases h; exact NE (A := ann 5 [(62, Zt)]) (ren := []) (fz := []) Try.func61 (by kernel_rfl) (AA Hm AF) (by show V61 _; rw [vc61])
 ·cases h
def Xt : AObj := .box [.fn (.func 61) [] []]
def C90c61 : Ctr := { ro := [100], α := Int, xs := λ x => [.int x, .bptr 100 0], L := λ _ => [(100, Xt)], val := λ x => .bool (!inM x (-1) 1), keep := λ _ => [(100, .live Xt)] }
def Vh := { ann 8 [(61, s61)] with E := [100] }
def Ya (x : Int) : Prop := BC Try.prog Vh Try.f90 (AH Try.f90) (C90c61.xs x) (AE (C90c61.L x)) (C90c61.val x) (C90c61.keep x) [] []
theorem Zr (x : Int) : (Ya x) = ((!inM x (-1) 1) = !inM x (-1) 1) := by kernel_rfl
theorem ABI (x : Int) : Ya x := by rw [Zr]
theorem Yq : AI Try.prog 90 (C90c61.spec AAO) := Ctr.spec_ok (C := C90c61) (λ (x : Int) _ => NE (A := Vh) (ren := []) (fz := []) Try.func90 (by kernel_rfl) (AA ok61 AF) (ABI x)) _
def Ue (l : List Int) : Ann := { ann 19 [(90, C90c61.spec AAO)] with E := [100], loops := λ id => if id = 2 then some [{ α := Nat, dflt := 0, T := λ k => ⟨[(0, .d (AW l)), (1, .fn (.func 90) [] [.bptr 100 0]), (7, .int l.length), (8, .int k)], [(100, .live Xt)]⟩, inv := λ k => k <= l.length /\ GQ (λ i => !inM (gD l i) (-1) 1) l.length 0 = GQ (λ i => !inM (gD l i) (-1) 1) (l.length - k) k, meas := λ k => l.length - k }] else none }
def C95c61 : Ctr := { ro := [100], α := List Int, xs := λ l => [.d (AW l), .fn (.func 90) [] [.bptr 100 0]], L := λ _ => [(100, Xt)], val := λ l => .int (GQ (λ i => !inM (gD l i) (-1) 1) l.length 0), keep := λ _ => [(100, .live Xt)], pre := λ l => [decide (l.length < 4611686018427387904) = true] }
def Ub (l : List Int) : Prop := BC Try.prog (Ue l) Try.f95 (AH Try.f95) (C95c61.xs l) (AE (C95c61.L l)) (C95c61.val l) (C95c61.keep l) [] []
theorem Yp (l : List Int) : (Ub l) = ((∃ (a : Nat), (l.length = l.length /\ (∀ (i : Nat), i < l.length -> gD l i = gD l i) /\ (↑l.length : Int) = (↑l.length : Int) /\ (↑a : Int) = 0) /\ a <= l.length /\ GQ (λ (i :
 Nat) => !inM (gD l i) (-1) 1) l.length 0 = GQ (λ (i : Nat) => !inM (gD l i) (-1) 1) (l.length - a) a) /\ ∀ (a : Nat), a <= l.length /\ GQ (λ (i : Nat) => !inM (gD l i) (-1) 1) l.length 0 = GQ (λ (i : Nat) => !inM
 (gD l i) (-1) 1) (l.length - a) a -> bif decide ((↑a : Int) < (↑l.length : Int)) then ((0 <= (↑a : Int) /\ (↑a : Int) < (↑l.length : Int)) /\ gD l a = gD l a) /\ bif !inM (gD l a) (-1) 1 then GQ (λ (i : Nat) => !inM (gD l
 i) (-1) 1) l.length 0 = (↑a : Int) else ∃ (a_2 : Nat), (l.length = l.length /\ (∀ (i : Nat), i < l.length -> gD l i = gD l i) /\ (↑l.length : Int) = (↑l.length : Int) /\ (↑a_2 : Int) = IntKind.i64.wrap ((↑a : Int) + 1)) /\
 (a_2 <= l.length /\ GQ (λ (i : Nat) => !inM (gD l i) (-1) 1) l.length 0 = GQ (λ (i : Nat) => !inM (gD l i) (-1) 1) (l.length - a_2) a_2) /\ l.length - a_2 < l.length - a else GQ (λ (i : Nat) => !inM (gD l i) (-1)
 1) l.length 0 = -1) := by kernel_rfl
theorem AAX (l : List Int) (h : l.length < 4611686018427387904) : Ub l := by
 rw [Yp]
 simp only [CC, eq_self, implies_true, forall_const]
 refine ⟨⟨0, rfl, Nat.zero_le _, rfl⟩, λ k ⟨h1, h2⟩ => ⟨λ hlt => ?_, λ hge => ?_⟩⟩
 ·have hlt : k < l.length := by omega
  refine ⟨⟨by omega, by omega⟩, λ hp => ?_, λ hp => ⟨k + 1, (AN (by omega)).symm, ⟨by omega, ?_⟩, by omega⟩⟩
  ·rw [h2]; exact WM hlt (by simpa using hp)
  ·rw [h2]; exact Hn hlt (by simpa using hp)
 ·rw [h2]; exact Az (by omega)
theorem Ym : AI Try.prog 95 (C95c61.spec Vl) := HQ C95c61 Ue [] [] Try.func95 (λ _ => by kernel_rfl) (λ _ => AA Yq AF) (λ a h => AAX a (of_decide_eq_true h)) (λ _ => IL rfl rfl) _
def C89c61 : Ctr := { C95c61 with val := λ (l : List Int) => .bool (decide (GQ (λ i => !inM (gD l i) (-1) 1) l.length 0 >= 0)) }
def Lw : List AVal -> Heap -> Option (C89c61.α × List (Nat × Nat) × List Nat) := Vl
def Vx := { ann 9 [(95, C95c61.spec Vl)] with E := [100] }
def Xz (l : List Int) : Prop := BC Try.prog Vx Try.f89 (AH Try.f89) (C89c61.xs l) (AE (C89c61.L l)) (C89c61.val l) (C89c61.keep l) [] []
theorem Zv (l : List Int) : (Xz l) = (((AD l.length λ (i : Nat) => gD l i).length = l.length /\ (∀ (i : Nat), i < (AD l.length λ (i : Nat) => gD l i).length -> gD (AD l.length λ (i : Nat) => gD l i) i =
 gD l i) /\ decide ((AD l.length λ (i : Nat) => gD l i).length < 4611686018427387904) = true) /\ decide (GQ (λ (i : Nat) => !inM (gD l i) (-1) 1) l.length 0 >= 0) = decide (GQ (λ (i : Nat) => !inM (gD (AD l.length
 λ (i : Nat) => gD l i) i) (-1) 1) (AD l.length λ (i : Nat) => gD l i).length 0 >= 0)) := by kernel_rfl
theorem AAT (l : List Int) (h : l.length < 4611686018427387904) : Xz l := by
 rw [Zv]; simp [h, OI]
theorem Yk : AI Try.prog 89 (C89c61.spec Lw) := Ctr.spec_ok (C := C89c61) (λ (l : List Int) h => NE (A := Vx) (ren := []) (fz := []) Try.func89 (by kernel_rfl) (AA Ym AF) (AAT l (of_decide_eq_true h))) _
def Xg := ann 9 [(89, C89c61.spec Lw)]
def C64c61 : Ctr := { α := List Int, xs := λ l => [.d (AW l), .fn (.func 61) [] []], L := λ _ => [], val := λ l => .bool (HP (λ i => inM (gD l i) (-1) 1) l.length), keep := λ _ => [], pre := λ l => [decide (l.length < 4611686018427387904) = true] }
def Xf (l : List Int) : Prop := BC Try.prog Xg Try.f64 (AH Try.f64) (C64c61.xs l) (AE []) (C64c61.val l) [] [] []
theorem Zk (l : List Int) : (Xf l) = (((AD l.length λ (i : Nat) => gD l i).length = l.length /\ (∀ (i : Nat), i < (AD l.length λ (i : Nat) => gD l i).length -> gD (AD l.length λ (i : Nat) => gD l i) i =
 gD l i) /\ decide ((AD l.length λ (i : Nat) => gD l i).length < 4611686018427387904) = true) /\ HP (λ (i : Nat) => inM (gD l i) (-1) 1) l.length = !decide (GQ (λ (i : Nat) => !inM (gD (AD l.length λ (i : Nat)
 => gD l i) i) (-1) 1) (AD l.length λ (i : Nat) => gD l i).length 0 >= 0)) := by kernel_rfl
theorem AAZ (l : List Int) (h : l.length < 4611686018427387904) : Xf l := by
 rw [Zk]; simp only [CC, eq_self, implies_true, forall_const, ge_iff_le, Rs, h]
theorem Rh : AI Try.prog 64 (C64c61.spec AAG) := Ctr.spec_ok (C := C64c61) (λ (l : List Int) h => NE (A := Xg) (L := []) (keep := []) (ren := []) (fz := []) Try.func64 (by kernel_rfl) (AA Yk AF) (AAZ l (of_decide_eq_true h))) _
end Go.Bal
