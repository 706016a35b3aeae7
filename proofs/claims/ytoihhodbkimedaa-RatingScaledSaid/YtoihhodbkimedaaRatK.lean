/- Package rating: Reach. -/
import Derived.Test.YtoihhodbkimedaaRatJ
set_option linter.unusedVariables false
set_option linter.unusedSimpArgs false
