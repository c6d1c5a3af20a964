/- All walked functions. No condition. -/
import Derived.Test.YtlajingmjmnfgaaGreatDoorGenJ
set_option linter.all false
