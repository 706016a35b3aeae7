/- Package rating: copies. -/
import Derived.Test.YtoihhodbkimedaaRatZ
import Derived.Test.YtoihhodbkimedaaRatYo
set_option linter.unusedVariables false
set_option linter.unusedSimpArgs false
namespace Go.Bal
open Go Go.Sym Go.Proofs
def CBJ : Ann := { ann 7 [] with mt := λ id => id == 2 }
def C_cpI : Ctr := { α := List Int, xs := λ l => [.d (DC l)], L := λ _ => [], val := λ l => .own 0 1 0 l.length, keep := λ l => [(0, .live (rowI l))], pre := λ l => [0 < l.length /\ l.length < 1073741824] }
def BZU (l : List Int) : Prop := CH Try.prog CBJ ABH (AI ABH) (C_cpI.xs l) (AD []) (C_cpI.val l) (C_cpI.keep l) [(0, 3032)] []
theorem CCD (l : List Int) : (BZU l) = (YV (Eh Gi (And EF (CZ 0 l Dn)) (CG UX (IK (CX l))) (Vr l) (Ej (Vr l) 8)) (BB l (Vr l)) (λ i=>SJ i l i l (Gf i))) := by kernel_rfl
end Go.Bal

namespace Go.Bal
open Go Go.Sym Go.Proofs
def nilI : List Int := []
def C_cpE : Ctr := { α := One, xs := λ _ => [.d (DC nilI)], L := λ _ => [], val := λ _ => .d VG, keep := λ _ => [] }
def CAQ (_x : One) : Prop := CH Try.prog (ann 7 []) ABH (AI ABH) (C_cpE.xs _x) (AD []) (C_cpE.val _x) [] [] []
theorem CEX (_x : One) : (CAQ _x) = (Bu (Eh Gi (SE Dn) (UY (IK 0)) 0 0) AC) := by kernel_rfl
end Go.Bal
