/- Package rating: below, sound, the examples of the chapter. -/
import Derived.Test.YtoihhodbkimedaaGreatRatU
set_option linter.unusedVariables false
set_option linter.unusedSimpArgs false
namespace Go.Bal
open Go Go.Sym Go.Proofs
def Bg (a b : Int) : List Gau := [⟨100, 10, 12⟩, ⟨200, 30, 32⟩, ⟨300, a, b⟩]
def BBB := pD dI2 λ x => .d (BE (Bg x.a x.b))
def BCP : Ann := { ann 14 [] with md := λ id => if id = 1 then some (λ k => if k = 8 then 4 else 0) else none }
def BBM (x : I2) : Prop := AO Try.prog BCP AMW (AF AMW) (xI2 x) (AC []) (.d (BE (Bg x.a x.b))) [] [] []
theorem BFV (x : I2) : (BBM x) = ((Bg x.a x.b).length = 3 /\ ∀ (i : Nat), i < (Bg x.a x.b).length -> ((gD (Bg x.a x.b) i).st = bif decide (i = 0) then 100 else bif decide (i - 1 = 0) then 200 else 300)
 /\ ((gD (Bg x.a x.b) i).lo = bif decide (i = 0) then 10 else bif decide (i - 1 = 0) then 30 else x.a) /\ (gD (Bg x.a x.b) i).hi = bif decide (i = 0) then 12 else bif decide (i - 1 = 0) then 32 else x.b) := by
 kernel_rfl
def BHY := pD dI2 λ x => .d (sX ⟨x.a, x.b⟩)
def BGP (x : I2) : Prop := AO Try.prog (ann 8 []) Ul (AF Ul) (xI2 x) (AC []) (.d (sX ⟨x.a, x.b⟩)) [] [] []
theorem BPI (x : I2) : (BGP x) = (x.a = x.a /\ x.b = x.b) := by kernel_rfl
theorem BEX : AG Try.prog AOK BBB := EB xI2 hI2 λ x _ => JZ (A := BCP) (ren := []) (fz := []) BKA (by kernel_rfl) AE (by
 show BBM x; rw [BFV]
 refine ⟨rfl, λ i hi => ?_⟩
 match i, hi with
 | 0, _ => exact ⟨rfl, rfl, rfl⟩
 | 1, _ => exact ⟨rfl, rfl, rfl⟩
 | 2, _ => exact ⟨rfl, rfl, rfl⟩)
theorem BQD : AG Try.prog Tn BHY := EB xI2 hI2 λ x _ => JZ (A := ann 8 []) (ren := []) (fz := []) ATZ (by kernel_rfl) AE (by
 show BGP x; rw [BPI]; exact ⟨rfl, rfl⟩)
end Go.Bal
