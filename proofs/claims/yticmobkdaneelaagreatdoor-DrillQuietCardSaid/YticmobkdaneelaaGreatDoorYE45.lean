/- Parts of a proof. -/
import Derived.Test.YticmobkdaneelaaGreatDoorYE44
set_option linter.all false
set_option linter.unusedVariables false
set_option linter.unusedSimpArgs false
set_option linter.deprecated false

