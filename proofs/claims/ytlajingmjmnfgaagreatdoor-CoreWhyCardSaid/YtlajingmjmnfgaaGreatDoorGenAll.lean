/- All walked functions. No condition. -/
import Derived.Test.YtlajingmjmnfgaaGreatDoorGenM
set_option linter.all false
