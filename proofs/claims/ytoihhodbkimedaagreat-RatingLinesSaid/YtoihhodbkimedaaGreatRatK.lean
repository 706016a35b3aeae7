/- Package rating: Reach. -/
import Derived.Test.YtoihhodbkimedaaGreatRatJ
set_option linter.unusedVariables false
set_option linter.unusedSimpArgs false
