/- All walked functions. No condition. -/
import Derived.Test.YtlajingmjmnfgaaGreatDoorGenI
set_option linter.all false
