/- A condition in parts: what comes behind a cut may be reckoned apart. -/
import Derived.Test.YtceloknnpdonhaaGreatSym11
set_option linter.unusedVariables false
set_option linter.unusedSimpArgs false
namespace Go.Sym
variable {P : Program} {B B' : Rr} {ι ι' : Nat -> Pl} {H H' : Heap} {w w' : World} {c : Ctx} {σ : AState} {Q : Exit -> AState -> Prop}
end Go.Sym
