/- Package balance: Reached. -/
import Derived.Test.YtonddbmhljelgaaBalN
import Derived.Test.YtonddbmhljelgaaBalT15
import Derived.Test.YtonddbmhljelgaaBalS
import Derived.Test.YtonddbmhljelgaaBalO
import Derived.Test.YtonddbmhljelgaaBalW
set_option linter.unusedVariables false
set_option linter.unusedSimpArgs false
namespace Go.Bal
open Go Go.Sym Go.Proofs
structure NRF where
 N : NetL
 r : Int
 f : Int
def NRF.lacks (a : NRF) : Int := wr (a.f - (BW (AA a.N).all a.r).now)
def NRF.need (a : NRF) : Int := max a.lacks (wr (-a.lacks))
def NRF.sh (a : NRF) : Option (Desk × Int) := LC (AA a.N) a.r (decide (0 < a.lacks)) a.need
def NRF.res (a : NRF) : Desk × Int := a.sh.getD default
end Go.Bal

namespace Go.Bal
open Go
variable {N : NetL} {T : TruthL}
end Go.Bal

namespace Go.Bal
open Go
variable {N : NetL} {T : TruthL}
end Go.Bal

namespace Go.Bal
open Go
variable {N : NetL} {T : TruthL}
end Go.Bal




namespace Go.Bal
open Go Go.Sym Go.Proofs
def Uv : AVal -> Heap -> Option (Nat × (Nat -> DVal) × List Nat)
 | .d (.list _ n g _), _ => some (n, g, [])
 | .own id _ _ n, H => match H id with
  | .live (.row _ _ g) => some (n, g, [id])
  | _ => none
 | _, _ => none
def Zn : AVal -> Heap -> Option (NetL × List Nat)
 | .d x, _ => match LW x with
  | some N => some (N, [])
  | none => none
 | .agg [a, b], H => match Uv a H, Uv b H with
  | some (n, g, f1), some (m, r, f2) => some (⟨AC n λ i => HH (g i), AC m λ i => ET (r i)⟩, f1 ++ f2)
  | _, _ => none
 | _, _ => none
def dN : List AVal -> Heap -> Option (NetL × List (Nat × Nat) × List Nat)
 | [x], H => match Zn x H with
  | some (N, f) => some (N, [], f)
  | none => none
 | _, _ => none
def Pv (N : NetL) : TruthL := if AD N = 0 then MA N else zT
def FL (N : NetL) : Int := if AD N = 0 then CJ N else 0
def xsN (N : NetL) : List AVal := [.d (EZ N)]
def C20t : Ctr := { α := NetL, xs := xsN, val := λ N => .tup [.d (HZ (Pv N)), .int (FL N), .int (AD N)] }
theorem okT (C : Ctr) {g : FuncId} (h : ∀ a, BK (C.pre a) -> FnT Try.prog g (C.xs a) (AE (C.L a)) (C.val a) (C.keep a)) (dec : List AVal -> Heap -> Option (C.α × List (Nat × Nat) × List Nat)) : AL Try.prog g (C.spec dec) := Ctr.spec_ok h dec
theorem Sd : AL Try.prog 20 (C20t.spec dN) := okT C20t (λ (N : NetL) _ => by
 by_cases h : AD N = 0
 ·have := RX (A := A20) (xs := C20.xs N) (L := []) (val := C20.val N) (keep := []) (ren := []) (fz := [5016, 5017]) Try.func20 (by kernel_rfl) (AB Mc (AB Rj AH)) (p20 N h (DE h).1)
  have e : C20t.val N = C20.val N := by show AVal.tup [.d (HZ (Pv N)), .int (FL N), .int (AD N)] = .tup [.d (HZ (AP (AA N))), .int (CJ N), .int 0]; unfold Pv FL; rw [if_pos h, if_pos h, h]; rfl
  rw [e]; exact this
 ·have := RX (A := Vv) (xs := C20b.xs N) (L := []) (val := C20b.val N) (keep := []) (ren := []) (fz := []) Try.func20 (by kernel_rfl) (AB Ru AH) (p20b N h)
  have e : C20t.val N = C20b.val N := by show AVal.tup [.d (HZ (Pv N)), .int (FL N), .int (AD N)] = .tup [.d (HZ zT), .int 0, .int (AD N)]; unfold Pv FL; rw [if_neg h, if_neg h]
  rw [e]; exact this) dN
def AO (N : NetL) : List Span := if FC N = 0 then KT N else []
def AN (N : NetL) : List Span := if FC N = 0 then KV N else []
theorem QS {N : NetL} : FC N = 0 ↔ AD N = 0 /\ CJ N = 0 := by
 unfold FC
 by_cases h : AD N = 0
 ·rw [if_pos h]
  have := OW h
  by_cases h2 : 0 < CJ N
  ·rw [if_pos h2]; constructor
   ·intro h; cases h
   ·intro h; omega
  ·rw [if_neg h2]; constructor
   ·intro _; exact ⟨h, by omega⟩
   ·intro _; rfl
 ·rw [if_neg h]; constructor
  ·intro h2; exact absurd h2 h
  ·intro h2; exact absurd h2.1 h
def C34t : Ctr := { α := NetL, xs := xsN, val := λ N => .tup [KK (AO N), KK (AN N), .int (FC N)] }
theorem Sb : AL Try.prog 34 (C34t.spec dN) := okT C34t (λ (N : NetL) _ => by
 by_cases h : FC N = 0
 ·obtain ⟨h1, h2⟩ := QS.1 h
  have := RX (A := A34 N) (xs := C34.xs N) (L := []) (val := C34.val N) (keep := []) (ren := []) (fz := [210, 211]) Try.func34 (by kernel_rfl) (AB Sr (AB Sp AH)) (p34 N h1 (DE h1).1 (by omega) (Lp h1 h2))
  have e : C34t.val N = C34.val N := by show AVal.tup [KK (AO N), KK (AN N), .int (FC N)] = .tup [KK (KT N), KK (KV N), .int 0]; unfold AO AN; rw [if_pos h, if_pos h, h]
  rw [e]; exact this
 ·have := RX (A := Xu) (xs := C34b.xs N) (L := []) (val := C34b.val N) (keep := []) (ren := []) (fz := []) Try.func34 (by kernel_rfl) (AB Xw AH) (p34b N h λ h => (DE h).1)
  have e : C34t.val N = C34b.val N := by show AVal.tup [KK (AO N), KK (AN N), .int (FC N)] = .tup [KK [], KK [], .int (FC N)]; unfold AO AN; rw [if_neg h, if_neg h]
  rw [e]; exact this) dN
end Go.Bal
