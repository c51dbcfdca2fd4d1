/- Parts of a proof. -/
import Derived.Test.YtodbnbfjhjcanaaGreatDoorXB39
set_option linter.all false

